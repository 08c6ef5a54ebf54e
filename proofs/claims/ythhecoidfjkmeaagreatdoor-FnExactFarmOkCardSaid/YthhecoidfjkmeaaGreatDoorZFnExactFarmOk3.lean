/- FnExactFarmOk: the program's FarmOk returns what the reference's returns, for all arguments. (part 4 of 7: JkKTy, JkKSp, JkKOp, JkKBc, JkKEn, JkKF115, JkKF74, JkKF75, JkKF87, JkKF99, JkKPuA, JkKF73, JkKPuB, JkKFH271, JkKF244, JkKF209, JkKF212, JkKIt, JkKF151, JkKF100, JkKF102, JkKF140, JkKF88, JkKF192, JkK) Conditions: none beyond the statement. -/
import Derived.Test.YthhecoidfjkmeaaGreatDoorZFnExactFarmOk2
import Derived.Tactics
import Derived.Deep.RegionLaw
import Derived.Shelf.Abstract
import Derived.Test.YthhecoidfjkmeaaGreatDoorProg
import Derived.KernelRfl
import Derived.Lib.Builder
import Derived.Lib.UnsafeStr
import Derived.WalkKit
import Derived.Shelf.RegionOpenPlain
set_option linter.unusedSimpArgs false
set_option maxRecDepth 100000
set_option linter.unusedVariables false
namespace Go.Proofs
open Go.Jk
noncomputable abbrev U:Program:=Tryz.prog
noncomputable def aqV:List (Nat×cd):=[
(2,.int .i64),
(3,.int .i64),
(4,.bool),
(5,.int .u8),
(6,.int .u8),
(7,.struct [(0,1),(1,1),(2,1),(3,1)] 4 [.d (.int .i64 0),.d (.int .i64 0),.d (.bool false),.d (.int .u8 0)] false),
(8,.struct [(0,1),(1,1),(2,1),(3,1)] 4 [.d (.int .i64 0),.d (.int .i64 0),.d (.bool false),.d (.int .u8 0)] false),
(9,.str),
(10,.str),
(11,.str),
(12,.int .u64),
(13,.struct [(0,1),(1,1)] 2 [.d (.str []),.d (.int .u64 0)] false),
(14,.struct [(0,1),(1,1)] 2 [.d (.str []),.d (.int .u64 0)] false),
(15,.ptr),
(16,.ptr),
(17,.ptr),
(18,.struct [(0,1)] 1 [.cS (.pointer none)] false),
(19,.struct [(0,1)] 1 [.cS (.pointer none)] false),
(20,.iface),
(21,.int .i32),
(22,.struct [(0,1),(1,1)] 2 [.d (.str []),.d (.str [])] false),
(23,.struct [(0,1),(1,1)] 2 [.d (.str []),.d (.str [])] false),
(26,.struct [(0,1),(1,1)] 2 [.d (.str []),.d (.str [])] false),
(29,.slice 115 .pack 80),
(30,.struct [(0,1)] 1 [.nil .pack] false),
(31,.struct [(0,1)] 1 [.nil .pack] false),
(34,.slice 66 .pack 80),
(35,.struct [(0,1)] 1 [.nil .pack] false),
(36,.struct [(0,1)] 1 [.nil .pack] false),
(41,.slice 120 .file 32),
(42,.struct [(0,1),(1,1),(2,2)] 4 [.nil .file,.nil .pack,.d (.str []),.d (.str [])] false),
(43,.struct [(0,1),(1,1),(2,2)] 4 [.nil .file,.nil .pack,.d (.str []),.d (.str [])] false),
(46,.slice 124 .file 32),
(47,.struct [(0,1),(1,1),(2,2)] 4 [.nil .file,.nil .pack,.d (.str []),.d (.str [])] false),
(48,.struct [(0,1),(1,1),(2,2)] 4 [.nil .file,.nil .pack,.d (.str []),.d (.str [])] false),
(52,.slice 5 .u8 1),
(63,.slice 133 .need 40),
(64,.slice 178 .entry 48),
(65,.struct [(0,1),(1,1),(2,1),(3,1)] 4 [.d (.str []),.d (.str []),.nil .need,.nil .entry] false),
(66,.struct [(0,1),(1,1),(2,1),(3,1)] 4 [.d (.str []),.d (.str []),.nil .need,.nil .entry] false),
(84,.ptr),
(89,.ptr),
(90,.struct [(0,1),(1,1)] 2 [.cS (.pointer none),.nil .u8] false),
(91,.struct [(0,1),(1,1)] 2 [.cS (.pointer none),.nil .u8] false),
(92,.iface),
(93,.iface),
(103,.slice 9 .str 16),
(109,.slice 3 .i64 8),
(112,.slice 209 .need 40),
(113,.slice 211 .entry 48),
(114,.struct [(0,1),(1,1),(2,1),(3,1)] 4 [.d (.str []),.d (.str []),.nil .need,.nil .entry] false),
(115,.struct [(0,1),(1,1),(2,1),(3,1)] 4 [.d (.str []),.d (.str []),.nil .need,.nil .entry] false),
(119,.struct [(0,1),(1,1)] 2 [.d (.str []),.d (.str [])] false),
(120,.struct [(0,1),(1,1)] 2 [.d (.str []),.d (.str [])] true),
(124,.struct [(0,1),(1,1)] 2 [.d (.str []),.d (.str [])] true),
(132,.struct [(0,1),(1,1),(2,1)] 3 [.d (.str []),.d (.int .i64 0),.d (.str [])] false),
(133,.struct [(0,1),(1,1),(2,1)] 3 [.d (.str []),.d (.int .i64 0),.d (.str [])] true),
(140,.struct [(0,1),(1,1)] 2 [.nil .u8,.d (.int .i64 0)] false),
(141,.struct [(0,1),(1,1)] 2 [.nil .u8,.d (.int .i64 0)] false),
(144,.ptr),
(153,.int .u32),
(154,.arr 153 .u32 8),
(155,.int .u64),
(157,.slice 153 .u32 4),
(164,.func),
(177,.struct [(0,1),(1,1),(2,1),(3,1)] 4 [.d (.str []),.d (.int .i64 0),.d (.int .i64 0),.d (.str [])] false),
(178,.struct [(0,1),(1,1),(2,1),(3,1)] 4 [.d (.str []),.d (.int .i64 0),.d (.int .i64 0),.d (.str [])] true),
(183,.slice 3 .i64 8),
(202,.arr 153 .u32 64),
(203,.int .u64),
(209,.struct [(0,1),(1,1),(2,1)] 3 [.d (.str []),.d (.int .i64 0),.d (.str [])] true),
(211,.struct [(0,1),(1,1),(2,1),(3,1)] 4 [.d (.str []),.d (.int .i64 0),.d (.int .i64 0),.d (.str [])] true),
(251,.arr 4 .bool 256),
(252,.arr 4 .bool 256),
(264,.ptr),
(271,.struct [(0,1),(1,1)] 2 [.d (.int .u8 0),.d (.int .u8 0)] false),
(272,.struct [(0,1),(1,1)] 2 [.d (.int .u8 0),.d (.int .u8 0)] false),
(277,.struct [(0,1),(1,1),(2,1),(3,1)] 4 [.cS (.pointer none),.cS (.pointer none),.cS (.pointer none),.d (.str [])] false),
(278,.struct [(0,1),(1,1),(2,1),(3,1)] 4 [.cS (.pointer none),.cS (.pointer none),.cS (.pointer none),.d (.str [])] false),
(282,.int .u8),
(283,.int .u8),
(285,.int .i32),
(286,.int .i32),
(287,.struct [(0,1),(1,1),(2,1),(3,1),(4,1),(5,1),(6,1),(7,1),(8,1),(9,1),(10,1)] 11 [.d (.int .u64 0),.d (.int .u64 0),.d (.int .u32 0),.d (.int .u8 0),.d (.int .u8 0),.d (.int .u8 0),.d (.int .u8 0),.cS .nilFunc,.cS (.pointer none),.d (.int .i32 0),.d (.int .i32 0)] false),
(288,.struct [(0,1),(1,1),(2,1),(3,1),(4,1),(5,1),(6,1),(7,1),(8,1),(9,1),(10,1)] 11 [.d (.int .u64 0),.d (.int .u64 0),.d (.int .u32 0),.d (.int .u8 0),.d (.int .u8 0),.d (.int .u8 0),.d (.int .u8 0),.cS .nilFunc,.cS (.pointer none),.d (.int .i32 0),.d (.int .i32 0)] false)]
noncomputable def tt:TypeId->cd:=BP aqV
noncomputable def ah:Env:=⟨tt,[(198,266)],[230],[59],[112],[65],[(0,⟨.u32,iq⟩)]⟩
abbrev bJ(s:Shape)(t:List aN):=Option (Sum s.J (aw t))
theorem ak8(s p:ByteArray)(k:Int)(w:World):Calls U 232 #[.string s,.string p,.int .i64 k] w fun e w'=>
  e=.returned (.func (.func 266) #[] #[.pointer (some ⟨w.heap.size+1,0,none⟩),.pointer (some ⟨w.heap.size,0,none⟩),.pointer (some ⟨w.heap.size+2,0,none⟩)])/\
  w'=((w.alloc (.cells #[.string s] 9)).alloc (.cells #[.string p] 9)).alloc (.cells #[.int .i64 k] 3):=by
 go_enter Tryz.func232,Tryz.ntmps232
 go_wp2
 go_ret
 exact⟨rfl,rfl⟩
theorem ak9(s p:ByteArray)(w:World):Calls U 198 #[.string s,.string p] w fun e w'=>
  e=.returned (.func (.func 266) #[] #[.pointer (some ⟨w.heap.size+1,0,none⟩),.pointer (some ⟨w.heap.size,0,none⟩),.pointer (some ⟨w.heap.size+2,0,none⟩)])/\
  w'=((w.alloc (.cells #[.string s] 9)).alloc (.cells #[.string p] 9)).alloc (.cells #[.int .i64 0] 3):=by
 go_enter Tryz.func198,Tryz.ntmps198
 go_wp2_with (go_at_call 232;refine(ak8 _ _ _ _).mono ?_;rintro e w' ⟨rfl,rfl⟩)
 go_ret
 exact⟨rfl,rfl⟩
theorem am1:Ae U 198 266:=fun a b w=>.inl ⟨enters_of Tryz.func198 (by kernel_rfl) rfl _ _,(ak9 a b w).mono fun e w' h=>by obtain⟨rfl,rfl⟩:=h;exact⟨9,3,rfl,rfl⟩⟩
theorem ara(w:World):Calls U 59 #[.slice none 0 0] w fun e w'=>e=.returned (.pointer (some ⟨w.heap.size,0,none⟩))/\w'=w.alloc (.cells #[.slice none 0 0,.int .i64 0] 141):=by
 go_enter Tryz.func59,Tryz.ntmps59
 go_wp2
 go_ret
 exact⟨rfl,rfl⟩
theorem aq9(w:World)(a:Addr)(n c:Nat)(h:n<=2000):Calls U 59 #[.slice (some a) n c] w fun e w'=>e=.returned (.pointer (some ⟨w.heap.size,0,none⟩))/\w'=w.alloc (.cells #[.slice (some a) n c,.int .i64 0] 141):=by
 have h1:¬((n:Int)>2000):=by omega
 go_enter Tryz.func59,Tryz.ntmps59
 go_wp2
 go_ret
 exact⟨rfl,rfl⟩
theorem arb(w:World)(a:Addr)(n c:Nat)(h:2000<n)(hc:n<=c):Calls U 59 #[.slice (some a) n c] w fun e w'=>e=.returned (.pointer (some ⟨w.heap.size,0,none⟩))/\w'=w.alloc (.cells #[.slice (some a) 2000 c,.int .i64 0] 141):=by
 have h1:((n:Int)>2000):=by omega
 go_enter Tryz.func59,Tryz.ntmps59
 go_wp2
 go_ret
 exact⟨rfl,rfl⟩
theorem anw:Bi U 59:=fun xs v w av hr=>.inl ⟨enters_of Tryz.func59 (by kernel_rfl) rfl _ _,by
 have fin:∀{v:Value} {u:Value},bD w av (.sl .u8 (xs.take 2000)) u->Calls U 59 #[v] w (fun e w'=>e=.returned (.pointer (some ⟨w.heap.size,0,none⟩))/\w'=w.alloc (.cells #[u,.int .i64 0] 141))->
   Calls U 59 #[v] w fun e w'=>match e,w' with
    |.returned v',w'=>∃u T,bD w av (.sl .u8 (xs.take 2000)) u/\v'=.pointer (some ⟨w.heap.size,0,none⟩)/\w'=w.alloc (.cells #[u,.int .i64 0] T)
    |_,_=>False:=fun hu hc=>hc.mono fun e w' h=>by obtain⟨rfl,rfl⟩:=h;exact⟨_,_,hu,rfl,rfl⟩
 cases hr with
 |nil=>exact fin (.nil .u8) (ara w)
 |sl t xs a cap cs n hn hcap hb hl hc hr=>
  by_cases h:2000<n
  ·refine fin (u:=.slice (some a) 2000 cap) ?_ (arb w a n cap h hcap);have hlen:(xs.take 2000).length=2000:=by simp only[List.length_take];omega
   have hf:flat .u8 (xs.take 2000)=(flat .u8 xs).take 2000:=by rw[nj];rfl
   refine .sl .u8 (xs.take 2000) a cap (cs.take 2000) 2000 hlen.symm (by omega) (fun hx=>hb (fun e=>hx (by rw[e];rfl))) (by rw[hf,List.length_take,List.length_take,hl]) (fun j u hu=>?_) (fun j h1 h2=>?_)
   ·rw[List.getElem?_take] at hu;split at hu
    ·exact hc j u hu
    ·cases hu
   ·have h1':j<(flat .u8 xs).length:=by rw[hf,List.length_take] at h1;omega
    have h2':j<cs.length:=by rw[List.length_take] at h2;omega
    have e1:(flat .u8 (xs.take 2000))[j]=(flat .u8 xs)[j]:=by simp only[hf,List.getElem_take]
    have e2:(cs.take 2000)[j]=cs[j]:=List.getElem_take;rw[e1,e2];exact hr j h1' h2'
  ·refine fin (u:=.slice (some a) n cap) ?_ (aq9 w a n cap (by omega))
   rw[List.take_of_length_le (by omega)]
   exact .sl .u8 xs a cap cs n hn hcap hb hl hc hr⟩
set_option maxHeartbeats 1000000 in
theorem akE(b:Nat)(w:World)(h0:w.cell? ⟨b,0,none⟩=some (.pointer (some ⟨b,0,none⟩))):
  Calls U 112 #[.pointer (some ⟨b,0,none⟩)] w fun e w'=>e=.returned (.tuple #[])/\w'=w:=by
 obtain⟨j,hj,_⟩:=Option.map_eq_some_iff.1 (show(U.info? 91).map (·.size)=some 2 by kernel_rfl)
 go_enter Tryz.func112,Tryz.ntmps112
 go_wp2
 rw[Lib.run_neq_ptr_same w _ (show U.underlying 89=some (.pointer 91) by kernel_rfl) hj]
 go_wp2
 go_end0
 exact⟨rfl,rfl⟩
set_option maxHeartbeats 1000000 in
theorem ai6(b:Nat)(w:World)(h0:w.cell? ⟨b,0,none⟩=some (.pointer none))(hsh:w.shape? b=some (91,2))(hfz:w.frozen? ⟨b,0,none⟩=false):
  Calls U 112 #[.pointer (some ⟨b,0,none⟩)] w fun e w'=>e=.returned (.tuple #[])/\w'=w.setCell ⟨b,0,none⟩ (.pointer (some ⟨b,0,none⟩)):=by
 obtain⟨j,hj,hjs⟩:=Option.map_eq_some_iff.1 (show(U.info? 91).map (·.size)=some 2 by kernel_rfl)
 go_enter Tryz.func112,Tryz.ntmps112
 go_wp2
 rw[Lib.run_to_unsafe w ⟨b,0,none⟩ (show U.underlying 89=some (.pointer 91) by kernel_rfl) (show U.underlying 193=some .unsafePointer by kernel_rfl) hj (by rw[hjs];decide) hsh (Nat.zero_lt_succ 1)]
 simp only[Result.andThen];rw[Oper.upon_value]
 go_wp2
 rw[run_callFunc_extern Tryz.func164 (by kernel_rfl) (by kernel_rfl) (by kernel_rfl) (e:=Extern.AbiNoEscape.same) (by kernel_rfl)]
 rw[Lib.run_noEscape];simp only[Result.andThen];rw[Oper.upon_value]
 go_wp2
 rw[Lib.run_from_unsafe w ⟨b,0,none⟩ (show U.underlying 193=some .unsafePointer by kernel_rfl) (show U.underlying 89=some (.pointer 91) by kernel_rfl) hj hsh (by kernel_rfl)]
 simp only[Result.andThen];rw[Oper.upon_value]
 go_wp2
 go_end0
 exact⟨rfl,rfl⟩
theorem alU:Bj U 112:=by
 intro b p v w hb hp;refine .inl ⟨enters_of Tryz.func112 (by kernel_rfl) rfl _ _,?_⟩
 rcases hp with rfl|rfl
 ·refine(ai6 b w (by rw[Lib.cell_of_heap hb];rfl) (by simp[World.shape?,hb];rfl) (by simp[World.frozen?,hb])).mono ?_
  rintro e w' ⟨rfl,rfl⟩;refine⟨rfl,?_⟩;rw[setCell_eq_setRow w b 0 _ _ _ _ hb];rfl
 ·refine(akE b w (by rw[Lib.cell_of_heap hb];rfl)).mono ?_
  rintro e w' ⟨rfl,rfl⟩;exact⟨rfl,(setRow_self w' b _ _ _ hb).symm⟩
section
variable {P:Program}(w:World)
theorem MA:∀(xs:List Int) (a:Addr) (acc:ByteArray),(∀j x,xs[j]? =some x->w.cell? (a.add j)=some (.int .u8 x))->
  (loadBytes a acc xs.length).run P w=.ok ⟨acc.data++(strOf xs).toArray⟩ w
 |[],a,acc,_=>by simp[loadBytes,strOf]
 |x::l,a,acc,h=>by
  have h0:w.cell? a=some (.int .u8 x):=by
   have:=h 0 x rfl;simpa[Addr.add] using this
  have ih:=MA l (a.add 1) (acc.push (UInt8.ofNat x.toNat)) (fun j y hy=>by
   have:=h (j+1) y (by simpa using hy)
   have e:(a.add 1).add j=a.add (j+1):=by
    unfold Addr.add;by_cases hj:j=0
    ·subst hj;simp
    ·simp[hj];omega
   rw[e];exact this)
  have hx:(x.toNat).toUInt8=UInt8.ofNat x.toNat:=rfl;simp only[List.length_cons,loadBytes,Sem.run_bind,run_load,h0,Result.andThen,hx];rw[ih];congr 1
  apply ByteArray.ext;simp[ByteArray.push,strOf]
theorem _6(pt it ty e:TypeId)(hp:P.underlying pt=some (.pointer e))(hc:P.cellsOf e=1)(g cells:Nat)(hsh:w.shape? g=some (e,cells))(l:List Int)(h0:l≠[])(hn:l.length<=cells)(h63:l.length<=9223372036854775807)
  (hcell:∀j x,l[j]? =some x->w.cell? ((⟨g,0,none⟩:Addr).add j)=some (.int .u8 x)):
  (Builtin.unsafeString_ #[pt,it] ty #[.pointer (some ⟨g,0,none⟩),.int .i64 l.length]).run P w=.ok (.string ⟨(strOf l).toArray⟩) (w.freeze ⟨g,0,none⟩ l.length):=by
 have hl:l.length≠0:=by simpa using h0
 have hlb:=MA (P:=P) w l ⟨g,0,none⟩ .empty hcell;have hlies:=Lib.liesAt_bytes (P:=P) hc (cells/P.cellsOf e) l.length (by rw[hc];simpa using hn)
 have h63':¬(9223372036854775807:Int)<(l.length:Int):=by omega
 have hmax:IntKind.i64.max=9223372036854775807:=rfl;have hneg:¬(l.length:Int)<0:=by omega
 change Sem.run P (bind (asInt (.int .i64 (l.length:Int))) _) w=_;simp[asInt,asIntOf,hmax,h63',hneg,hl,variablesAt,hsh,elemOf,run_underlying hp,hlies,hlb]
theorem ab2(a:Addr)(n:Nat):(w.freeze a n).os=w.os/\(w.freeze a n).tape=w.tape/\(w.freeze a n).output=w.output/\(w.freeze a n).heap.size=w.heap.size/\
  (∀c,c≠a.block->(w.freeze a n).heap[c]? =w.heap[c]?)/\∀cur e fz,w.heap[a.block]? =some (.cells cur e fz)->∃fz',(w.freeze a n).heap[a.block]? =some (.cells cur e fz'):=by
 unfold World.freeze;split
 ·exact⟨rfl,rfl,rfl,rfl,fun _ _=>rfl,fun cur e fz h=>⟨fz,h⟩⟩
 ·refine⟨rfl,rfl,rfl,by simp,fun c hc=>?_,fun cur e fz h=>?_⟩
  ·simp only[Array.getElem?_modify];rw[if_neg (by omega)]
  ·simp only[Array.getElem?_modify,if_true,h,Option.map_some];exact⟨_,rfl⟩
end
abbrev p2(w:World)(v:Value)(xs:List Int)(e:Ending)(w':World):Prop:=e=.returned (.string ⟨(strOf xs).toArray⟩)/\w'.os=w.os/\w'.tape=w.tape/\w'.output=w.output/\w.heap.size<=w'.heap.size/\
   (∀c,c<w.heap.size->bH v≠some c->w'.heap[c]? =w.heap[c]?)/\∀c cur e fz,bH v=some c->w.heap[c]? =some (.cells cur e fz)->∃fz',w'.heap[c]? =some (.cells cur e fz')
set_option maxHeartbeats 2000000 in
theorem alW(b:Nat)(p:Value)(T:TypeId)(w:World)(hbk:w.heap[b]? =some (.cells #[p,.slice none 0 0] T (0,0))):
  Calls U 65 #[.pointer (some ⟨b,0,none⟩)] w (p2 w (.slice none 0 0) []):=by
 have hUS:∀W q,(Builtin.unsafeString_ #[144,3] 9 #[.pointer q,.int .i64 0]).run U W=.ok (.string .empty) W:=fun W q=>Lib.run_unsafeString_none W _ _ _ q
 have c1:w.drew.cell? ⟨b,1,none⟩=some (.slice none 0 0):=by
  have:w.drew.heap[b]? =some (.cells #[p,.slice none 0 0] T (0,0)):=hbk;rw[Lib.cell_of_heap this];rfl
 have mixed:U.follows .mixedOrders=true:=by kernel_rfl
 have hSD:(Builtin.unsafeSliceData_ #[52] 144 #[.slice none 0 0]).run U w.drew=.ok (.pointer none) w.drew:=rfl;go_enter Tryz.func65,Tryz.ntmps65
 go_wp2
 go_region_o
 all_goals(go_wp2;go_ret;exact⟨rfl,rfl,rfl,rfl,Nat.le_refl _,fun _ _ _=>rfl,fun c cur e fz h=>by cases h⟩)
set_option maxHeartbeats 2000000 in
theorem ahd(b g:Nat)(p:Value)(T:TypeId)(cur:Array Value)(w:World)(hbk:w.heap[b]? =some (.cells #[p,.slice (some ⟨g,0,none⟩) 0 0] T (0,0)))(fz:Nat×Nat)(hg:w.heap[g]? =some (.cells cur 5 fz)):
  Calls U 65 #[.pointer (some ⟨b,0,none⟩)] w (p2 w (.slice (some ⟨g,0,none⟩) 0 0) []):=by
 have hUS:∀W q,(Builtin.unsafeString_ #[144,3] 9 #[.pointer q,.int .i64 0]).run U W=.ok (.string .empty) W:=fun W q=>Lib.run_unsafeString_none W _ _ _ q
 have hlt:b<w.heap.size:=(Array.getElem?_eq_some_iff.1 hbk).1;have c1:w.drew.cell? ⟨b,1,none⟩=some (.slice (some ⟨g,0,none⟩) 0 0):=by
  have:w.drew.heap[b]? =some (.cells #[p,.slice (some ⟨g,0,none⟩) 0 0] T (0,0)):=hbk;rw[Lib.cell_of_heap this];rfl
 have mixed:U.follows .mixedOrders=true:=by kernel_rfl
 have t144:U.underlying 144=some (.pointer 5):=by kernel_rfl
 have hSD:(Builtin.unsafeSliceData_ #[52] 144 #[.slice (some ⟨g,0,none⟩) 0 0]).run U w.drew=.ok (.pointer (some ⟨w.drew.heap.size,0,none⟩)) (w.drew.alloc (.view ⟨g,0,none⟩ 5)):=
  Lib.run_unsafeSliceData_zero w.drew _ _ 5 t144 ⟨g,0,none⟩ 0 (5,cur.size) (by have hg':w.drew.heap[g]? =some (.cells cur 5 fz):=hg;simp[World.shape?,hg'])
 have c2:(w.drew.alloc (.view ⟨g,0,none⟩ 5)).cell? ⟨b,1,none⟩=some (.slice (some ⟨g,0,none⟩) 0 0):=by
  have:(w.drew.alloc (.view ⟨g,0,none⟩ 5)).heap[b]? =_:=(Lib.alloc_old w.drew _ b hlt).trans hbk;rw[Lib.cell_of_heap this];rfl
 have c3:(w.alloc (.view ⟨g,0,none⟩ 5)).drew.cell? ⟨b,1,none⟩=some (.slice (some ⟨g,0,none⟩) 0 0):=c2;have c0:w.cell? ⟨b,1,none⟩=some (.slice (some ⟨g,0,none⟩) 0 0):=c1;have fin:p2 w (.slice (some ⟨g,0,none⟩) 0 0) [] (.returned (.string .empty)) (w.drew.alloc (.view ⟨g,0,none⟩ 5)):=by
  refine⟨rfl,rfl,rfl,rfl,by simp,fun c hc _=>Lib.alloc_old w.drew _ c hc,fun c cur' e fz' h h2=>?_⟩
  cases h;exact⟨fz',(Lib.alloc_old w.drew _ g (Array.getElem?_eq_some_iff.1 hg).1).trans h2⟩
 go_enter Tryz.func65,Tryz.ntmps65
 go_wp2
 go_region_o
 all_goals(go_wp2;go_ret;exact fin)
set_option maxHeartbeats 2000000 in
theorem akB(b g cap:Nat)(p:Value)(T:TypeId)(w:World)(hc0:cap≠0)(hbk:w.heap[b]? =some (.cells #[p,.slice (some ⟨g,0,none⟩) 0 cap] T (0,0))):
  Calls U 65 #[.pointer (some ⟨b,0,none⟩)] w (p2 w (.slice (some ⟨g,0,none⟩) 0 cap) []):=by
 have hUS:∀W q,(Builtin.unsafeString_ #[144,3] 9 #[.pointer q,.int .i64 0]).run U W=.ok (.string .empty) W:=fun W q=>Lib.run_unsafeString_none W _ _ _ q
 have c1:w.drew.cell? ⟨b,1,none⟩=some (.slice (some ⟨g,0,none⟩) 0 cap):=by
  have:w.drew.heap[b]? =some (.cells #[p,.slice (some ⟨g,0,none⟩) 0 cap] T (0,0)):=hbk;rw[Lib.cell_of_heap this];rfl
 have mixed:U.follows .mixedOrders=true:=by kernel_rfl
 have hSD:(Builtin.unsafeSliceData_ #[52] 144 #[.slice (some ⟨g,0,none⟩) 0 cap]).run U w.drew=.ok (.pointer (some ⟨g,0,none⟩)) w.drew:=
  Lib.run_unsafeSliceData_row _ _ _ _ _ _ hc0
 clear hc0;go_enter Tryz.func65,Tryz.ntmps65
 go_wp2
 go_region_o
 all_goals(go_wp2;go_ret;exact⟨rfl,rfl,rfl,rfl,Nat.le_refl _,fun _ _ _=>rfl,fun c cur e fz h h2=>⟨fz,h2⟩⟩)
set_option maxHeartbeats 2000000 in
theorem alV(b g cap:Nat)(p:Value)(T:TypeId)(cur:Array Value)(fz:Nat×Nat)(xs:List Int)(w:World)(h0:xs≠[])(hbk:w.heap[b]? =some (.cells #[p,.slice (some ⟨g,0,none⟩) xs.length cap] T (0,0)))
  (hg:w.heap[g]? =some (.cells cur 5 fz)) (hnc:xs.length<=cap) (hcm:cap<=maxLen) (hcs:cur.size=cap) (htk:cur.toList.take xs.length=xs.map (Value.int .u8)):
  Calls U 65 #[.pointer (some ⟨b,0,none⟩)] w (p2 w (.slice (some ⟨g,0,none⟩) xs.length cap) xs):=by
 have hl0:xs.length≠0:=by simpa using h0
 have c1:w.drew.cell? ⟨b,1,none⟩=some (.slice (some ⟨g,0,none⟩) xs.length cap):=by
  have:w.drew.heap[b]? =some (.cells #[p,.slice (some ⟨g,0,none⟩) xs.length cap] T (0,0)):=hbk;rw[Lib.cell_of_heap this];rfl
 have mixed:U.follows .mixedOrders=true:=by kernel_rfl
 have t144:U.underlying 144=some (.pointer 5):=by kernel_rfl
 have hg':w.drew.heap[g]? =some (.cells cur 5 fz):=hg;have hSD:(Builtin.unsafeSliceData_ #[52] 144 #[.slice (some ⟨g,0,none⟩) xs.length cap]).run U w.drew=.ok (.pointer (some ⟨g,0,none⟩)) w.drew:=
  Lib.run_unsafeSliceData_row _ _ _ _ _ _ (by omega)
 have hUS:(Builtin.unsafeString_ #[144,3] 9 #[.pointer (some ⟨g,0,none⟩),.int .i64 xs.length]).run U w.drew=.ok (.string ⟨(strOf xs).toArray⟩) (w.drew.freeze ⟨g,0,none⟩ xs.length):=by
  refine _6 w.drew 144 3 9 5 t144 (by kernel_rfl) g cur.size (by simp[World.shape?,hg']) xs h0 (by omega) (by unfold maxLen at hcm;omega) ?_
  intro j x hx;rw[gL,Nat.zero_add,cell_of_row w.drew g j cur 5 fz hg'];have hj:j<xs.length:=(List.getElem?_eq_some_iff.1 hx).1;have:=congrArg (fun l=>l[j]?) htk
  simp only[List.getElem?_take,List.getElem?_map,hx,Option.map_some,hj,if_true] at this;simpa using this
 have fin:p2 w (.slice (some ⟨g,0,none⟩) xs.length cap) xs (.returned (.string ⟨(strOf xs).toArray⟩)) (w.drew.freeze ⟨g,0,none⟩ xs.length):=by
  obtain⟨f1,f2,f3,f4,f5,f6⟩:=ab2 w.drew ⟨g,0,none⟩ xs.length;refine⟨rfl,f1,f2,f3,Nat.le_of_eq f4.symm,fun c _ hc=>f5 c fun e=>hc (by rw[e];rfl),fun c cur' e fz' h h2=>?_⟩
  cases h;exact f6 cur' e fz' h2
 clear htk hg' hg hcs hcm hnc hl0 h0;go_enter Tryz.func65,Tryz.ntmps65
 go_wp2
 go_region_o
 all_goals(go_wp2;go_ret;exact fin)
theorem aoh:BH U 65:=by
 intro b p v T xs w hb hrow;refine .inl ⟨enters_of Tryz.func65 (by kernel_rfl) rfl _ _,?_⟩
 have key:Calls U 65 #[.pointer (some ⟨b,0,none⟩)] w (p2 w v xs):=by
  rcases hrow.2 with⟨rfl,h0⟩|⟨g,cap,cur,fz,rfl,hu,hg,hnc,hcm,hcs,htk⟩
  ·have:xs=[]:=List.eq_nil_of_length_eq_zero h0;subst this;exact alW b p T w hb
  ·by_cases h0:xs=[]
   ·subst h0;by_cases hc:cap=0
    ·subst hc;exact ahd b g p T cur w hb fz hg
    ·exact akB b g cap p T w hc hb
   ·exact alV b g cap p T cur fz xs w h0 hb hg hnc hcm (by simpa using hcs) (by simpa using htk)
 refine key.mono fun e w' h=>?_
 obtain⟨rfl,h⟩:=h;exact⟨rfl,h⟩
theorem asF:Ca 0 .u32 iq:=agT (by simp[kF]) fun w h=>h.1
theorem avB:Tt U ah:=⟨ahx (Qa (by kernel_rfl)),by kernel_rfl,fun p h=>by
 simp only[ah,List.mem_cons,List.not_mem_nil,or_false] at h;subst h;exact am1,fun g h=>by
 simp only[ah,List.mem_cons,List.not_mem_nil,or_false] at h;subst h;exact anw,fun g h=>by
 simp only[ah,List.mem_cons,List.not_mem_nil,or_false] at h;subst h;exact alU,fun g h=>by
 simp only[ah,List.mem_cons,List.not_mem_nil,or_false] at h;subst h;exact aoh,fun p h=>by
 simp only[ah,List.mem_cons,List.not_mem_nil,or_false] at h;subst h;exact asF⟩
theorem bc{L:bg}(h:Ch U L):aW U (bd ah L):=aiY avB h
theorem g0:aW U (bd ah []):=bc ⟨⟩
abbrev QN:Shape:=⟨[ap 0,ad 1],[],53⟩
abbrev Qt:List aN:=[(.norm,⟨[ap 0,ad 1,ar 24],[],53⟩)]
noncomputable def z1(y:QN.J):Option (aw Qt):=
 bif(!(y.1.1==([]:F))) then
 bif(!(decide ((y.1.1.length:Int)>(9:Int)))) then
 bif(decide ((y.1.1.length:Int)>(1:Int))) then
(aP y.1.1 (0:Int)).bind fun a=>
 some ((y.1.1,y.1.2.1,((a.toNat:Int)==(48:Int)),()),())
else
 some ((y.1.1,y.1.2.1,false,()),())
else
 some ((y.1.1,y.1.2.1,true,()),())
else
 some ((y.1.1,y.1.2.1,true,()),())
theorem aiv:aT U (an (codeOf Tryz.f115) 1 12) (a6 QN Qt z1):=cQ g0 (by kernel_rfl) af fun y=>by kernel_rfl
abbrev NE:Shape:=⟨[ap 0,ad 1,ad 6,ad 7,ad 26,ad 27],[],53⟩
abbrev Nx:List aN:=[(.norm,⟨[ap 0,ad 1,ad 6,ad 7,ad 26,ad 27,ar 39],[],53⟩)]
noncomputable def xB(y:NE.J):Option (aw Nx):=
(aP y.1.1 y.1.2.2.2.1).bind fun a=>
 bif(!(decide ((a.toNat:Int)<(48:Int)))) then
(aP y.1.1 y.1.2.2.2.1).bind fun b=>
 some ((y.1.1,y.1.2.1,y.1.2.2.1,y.1.2.2.2.1,y.1.2.2.2.2.1,y.1.2.2.2.2.2.1,(decide ((b.toNat:Int)>(57:Int))),()),())
else
 some ((y.1.1,y.1.2.1,y.1.2.2.1,y.1.2.2.2.1,y.1.2.2.2.2.1,y.1.2.2.2.2.2.1,true,()),())
theorem acK:aT U (an (c8 (an (codeOf Tryz.f115) 1 122)) 244 31332) (a6 NE Nx xB):=cQ g0 (by kernel_rfl) af fun y=>by kernel_rfl
abbrev ys:Shape:=⟨[ap 0,ad 1,ad 6,ad 26,ad 27],[],53⟩
abbrev EV:List aN:=[(.ret,⟨[ad 4,ar 5],[],53⟩),(.exit 0,⟨[ad 1,ad 6],[],53⟩)]
noncomputable def pO(y:ys.J):bJ ys EV:=
 bif(decide (y.1.2.2.2.2.1<y.1.2.2.2.1)) then
(xB ((y.1.1,y.1.2.1,y.1.2.2.1,y.1.2.2.2.2.1,y.1.2.2.2.1,y.1.2.2.2.2.1,()),())).bind fun a=>
 bif a.1.2.2.2.2.2.2.1 then
 some (.inr (.inl (((0:Int),false,()),())))
else
(aP a.1.1 a.1.2.2.2.1).bind fun b=>
 some (.inl ((a.1.1,a.1.2.1,(IntKind.i64.wrap ((IntKind.i64.wrap (a.1.2.2.1*(10:Int)))+(IntKind.i64.wrap (IntKind.u8.wrap ((b.toNat:Int)-(48:Int)))))),a.1.2.2.2.2.1,(IntKind.i64.wrap (a.1.2.2.2.2.2.1+(1:Int))),()),()))
else
 some (.inr (.inr ((y.1.2.1,y.1.2.2.1,()),())))
noncomputable def rR:ys.J->Option (aw EV):=bn pO
theorem agv:aT U (an (codeOf Tryz.f115) 1 122) (a6 ys EV rR):=bN g0 (by kernel_rfl) (bb acK af) fun y=>by kernel_rfl
abbrev i115:Shape:=⟨[ap 0,ad 1],[],53⟩
abbrev Vf:Shape:=⟨[ad 4,ar 5],[],53⟩
noncomputable def f115(a:i115.J):Option Vf.J:=
(z1 ((a.1.1,a.1.2.1,()),())).bind fun b=>
 bif b.1.2.2.1 then
 some (((0:Int),false,()),())
else
(rR ((b.1.1,b.1.2.1,(0:Int),(b.1.1.length:Int),(0:Int),()),())).bind fun c=>
(match c with
|.inl d=>
 some ((d.1.1,d.1.2.1,()),())
|.inr e=>
 bif(decide (e.1.2.1>e.1.1)) then
 some (((0:Int),false,()),())
else
 some ((e.1.2.1,true,()),()))
noncomputable def B9:aF:=aK ah Tryz.f115 i115 Vf [] f115
theorem IB:aE U 115 B9:=aL g0 Tryz.func115 (by kernel_rfl) (bb aiv (bb agv af)) (fun y=>by kernel_rfl) fun a=>by kernel_rfl
abbrev Py:Shape:=⟨[ap 0,ad 3,ad 4],[],47⟩
abbrev Pk:List aN:=[(.norm,⟨[ap 0,ad 3,ad 4,ar 24],[],47⟩)]
noncomputable def Fu(y:Py.J):Option (aw Pk):=
(aP y.1.1 y.1.2.2.1).bind fun a=>
 bif(!(decide ((a.toNat:Int)<(48:Int)))) then
(aP y.1.1 y.1.2.2.1).bind fun b=>
 bif(!(decide ((b.toNat:Int)>(57:Int)))) then
 some ((y.1.1,y.1.2.1,y.1.2.2.1,(decide (y.1.2.2.1>=(6:Int))),()),())
else
 some ((y.1.1,y.1.2.1,y.1.2.2.1,true,()),())
else
 some ((y.1.1,y.1.2.1,y.1.2.2.1,true,()),())
theorem af6:aT U (an (c8 (an (codeOf Tryz.f74) 1 58)) 116 3728) (a6 Py Pk Fu):=cQ g0 (by kernel_rfl) af fun y=>by kernel_rfl
abbrev Aw:Shape:=⟨[ap 0,ad 3,ad 4],[],47⟩
abbrev Hs:List aN:=[(.ret,⟨[ad 2],[],47⟩),(.exit 0,⟨[ap 0,ad 3],[],47⟩)]
noncomputable def AY(y:Aw.J):bJ Aw Hs:=
 bif(decide (y.1.2.2.1<(y.1.1.length:Int))) then
(Fu ((y.1.1,y.1.2.1,y.1.2.2.1,()),())).bind fun a=>
 bif a.1.2.2.2.1 then
 some (.inr (.inl ((((-1):Int),()),())))
else
(aP a.1.1 a.1.2.2.1).bind fun b=>
 some (.inl ((a.1.1,(IntKind.i64.wrap ((IntKind.i64.wrap (a.1.2.1*(10:Int)))+(IntKind.i64.wrap (IntKind.u8.wrap ((b.toNat:Int)-(48:Int)))))),(IntKind.i64.wrap (a.1.2.2.1+(1:Int))),()),()))
else
 some (.inr (.inr ((y.1.1,y.1.2.1,()),())))
noncomputable def HV:Aw.J->Option (aw Hs):=bn AY
theorem ajS:aT U (an (codeOf Tryz.f74) 1 58) (a6 Aw Hs HV):=bN g0 (by kernel_rfl) (bb af6 af) fun y=>by kernel_rfl
abbrev RF:Shape:=⟨[ap 0,ad 3],[],47⟩
abbrev Rw:List aN:=[(.norm,⟨[ad 3,ar 45],[],47⟩)]
noncomputable def H_(y:RF.J):Option (aw Rw):=
 bif(!((y.1.1.length:Int)==(0:Int))) then
 bif(decide ((y.1.1.length:Int)>(1:Int))) then
(aP y.1.1 (0:Int)).bind fun a=>
 some ((y.1.2.1,((a.toNat:Int)==(48:Int)),()),())
else
 some ((y.1.2.1,false,()),())
else
 some ((y.1.2.1,true,()),())
theorem ajR:aT U (an (codeOf Tryz.f74) 1 60) (a6 RF Rw H_):=cQ g0 (by kernel_rfl) af fun y=>by kernel_rfl
abbrev i74:Shape:=⟨[ap 0],[],47⟩
abbrev X_:Shape:=⟨[ad 2],[],47⟩
noncomputable def f74(a:i74.J):Option X_.J:=
(HV ((a.1.1,(0:Int),(0:Int),()),())).bind fun b=>
(match b with
|.inl c=>
 some ((c.1.1,()),())
|.inr d=>
(H_ ((d.1.1,d.1.2.1,()),())).bind fun e=>
 bif e.1.2.1 then
 some ((((-1):Int),()),())
else
 some ((e.1.1,()),()))
noncomputable def CW:aF:=aK ah Tryz.f74 i74 X_ [] f74
theorem JZ:aE U 74 CW:=aL g0 Tryz.func74 (by kernel_rfl) (bb ajS (bb ajR af)) (fun y=>by kernel_rfl) fun a=>by kernel_rfl
abbrev i75:Shape:=⟨[ad 0,ad 1,ad 2],[],15⟩
abbrev X9:Shape:=⟨[ar 6],[],15⟩
noncomputable def f75(a:i75.J):Option X9.J:=
 bif(decide (a.1.1>=a.1.2.1)) then
 some (((decide (a.1.1<=a.1.2.2.1)),()),())
else
 some ((false,()),())
noncomputable def oa:aF:=aK ah Tryz.f75 i75 X9 [] f75
theorem z75:aE U 75 oa:=aL g0 Tryz.func75 (by kernel_rfl) af (fun y=>by kernel_rfl) fun a=>by kernel_rfl
noncomputable abbrev atq:bg:=[(75,oa)]
theorem C3:aW U (bd ah atq):=bc ⟨z75,⟨⟩⟩
abbrev Qy:Shape:=⟨[ap 0,ad 3],[],42⟩
abbrev Qe:List aN:=[(.norm,⟨[ap 0,ad 3,ar 4],[],42⟩)]
noncomputable def G0(y:Qy.J):Option (aw Qe):=
(aP y.1.1 y.1.2.1).bind fun a=>
 bif(decide ((a.toNat:Int)>=(97:Int))) then
(aP y.1.1 y.1.2.1).bind fun b=>
 some ((y.1.1,y.1.2.1,(decide ((b.toNat:Int)<=(122:Int))),()),())
else
 some ((y.1.1,y.1.2.1,false,()),())
theorem ahF:aT U (an (c8 (an (codeOf Tryz.f87) 1 26)) 52 840) (a6 Qy Qe G0):=cQ C3 (by kernel_rfl) af fun y=>by kernel_rfl
abbrev Px:Shape:=⟨[ap 0,ad 3,ar 4],[],42⟩
abbrev Pj:List aN:=[(.norm,⟨[ap 0,ad 3,ar 38],[],42⟩)]
noncomputable def Ft(y:Px.J):Option (aw Pj):=
 bif(!y.1.2.2.1) then
 bif(!(y.1.2.1==(0:Int))) then
(aP y.1.1 y.1.2.1).bind fun a=>
 bif(!(decide ((a.toNat:Int)<(48:Int)))) then
(aP y.1.1 y.1.2.1).bind fun b=>
 some ((y.1.1,y.1.2.1,(decide ((b.toNat:Int)>(57:Int))),()),())
else
 some ((y.1.1,y.1.2.1,true,()),())
else
 some ((y.1.1,y.1.2.1,true,()),())
else
 some ((y.1.1,y.1.2.1,false,()),())
theorem af5:aT U (an (c8 (an (codeOf Tryz.f87) 1 26)) 52 1682) (a6 Px Pj Ft):=cQ C3 (by kernel_rfl) af fun y=>by kernel_rfl
abbrev Av:Shape:=⟨[ap 0,ad 3],[],42⟩
abbrev Hr:List aN:=[(.ret,⟨[ar 2],[],42⟩),(.exit 0,⟨[ap 0],[],42⟩)]
noncomputable def AX(y:Av.J):bJ Av Hr:=
 bif(decide (y.1.2.1<(y.1.1.length:Int))) then
(G0 ((y.1.1,y.1.2.1,()),())).bind fun a=>
(Ft ((a.1.1,a.1.2.1,a.1.2.2.1,()),())).bind fun b=>
 bif b.1.2.2.1 then
 some (.inr (.inl ((false,()),())))
else
 some (.inl ((b.1.1,(IntKind.i64.wrap (b.1.2.1+(1:Int))),()),()))
else
 some (.inr (.inr ((y.1.1,()),())))
noncomputable def HU:Av.J->Option (aw Hr):=bn AX
theorem ajP:aT U (an (codeOf Tryz.f87) 1 26) (a6 Av Hr HU):=bN C3 (by kernel_rfl) (bb ahF (bb af5 af)) fun y=>by kernel_rfl
abbrev i87:Shape:=⟨[ap 0],[],42⟩
abbrev X3:Shape:=⟨[ar 2],[],42⟩
noncomputable def f87(a:i87.J):Option X3.J:=
(HU ((a.1.1,(0:Int),()),())).bind fun b=>
(match b with
|.inl c=>
 some ((c.1.1,()),())
|.inr d=>
(f75 (((d.1.1.length:Int),(1:Int),(10:Int),()),())).bind fun e=>
 some ((e.1.1,()),()))
noncomputable def Ln:aF:=aK ah Tryz.f87 i87 X3 [] f87
theorem z87:aE U 87 Ln:=aL C3 Tryz.func87 (by kernel_rfl) (bb ajP af) (fun y=>by kernel_rfl) fun a=>by kernel_rfl
abbrev RD:Shape:=⟨[ap 0],[],49⟩
abbrev Ru:List aN:=[(.norm,⟨[ap 0,ar 20],[],49⟩)]
noncomputable def H9(y:RD.J):Option (aw Ru):=
 bif(!(y.1.1==([]:F))) then
 bif(!(decide ((y.1.1.length:Int)>(10:Int)))) then
(aP y.1.1 (0:Int)).bind fun a=>
 bif(!(decide ((a.toNat:Int)<(97:Int)))) then
(aP y.1.1 (0:Int)).bind fun b=>
 some ((y.1.1,(decide ((b.toNat:Int)>(122:Int))),()),())
else
 some ((y.1.1,true,()),())
else
 some ((y.1.1,true,()),())
else
 some ((y.1.1,true,()),())
theorem ajI:aT U (an (codeOf Tryz.f99) 1 12) (a6 RD Ru H9):=cQ g0 (by kernel_rfl) af fun y=>by kernel_rfl
abbrev Pw:Shape:=⟨[ap 0,ad 3,ad 22,ad 23],[],49⟩
abbrev Ph:List aN:=[(.norm,⟨[ap 0,ad 22,ad 23,ar 47],[],49⟩)]
noncomputable def Fs(y:Pw.J):Option (aw Ph):=
(aP y.1.1 y.1.2.1).bind fun a=>
 bif(!(decide ((a.toNat:Int)<(97:Int)))) then
(aP y.1.1 y.1.2.1).bind fun b=>
 bif(decide ((b.toNat:Int)>(122:Int))) then
(aP y.1.1 y.1.2.1).bind fun c=>
 bif(!(decide ((c.toNat:Int)<(48:Int)))) then
(aP y.1.1 y.1.2.1).bind fun d=>
 some ((y.1.1,y.1.2.2.1,y.1.2.2.2.1,(decide ((d.toNat:Int)>(57:Int))),()),())
else
 some ((y.1.1,y.1.2.2.1,y.1.2.2.2.1,true,()),())
else
 some ((y.1.1,y.1.2.2.1,y.1.2.2.2.1,false,()),())
else
(aP y.1.1 y.1.2.1).bind fun e=>
 bif(!(decide ((e.toNat:Int)<(48:Int)))) then
(aP y.1.1 y.1.2.1).bind fun f=>
 some ((y.1.1,y.1.2.2.1,y.1.2.2.2.1,(decide ((f.toNat:Int)>(57:Int))),()),())
else
 some ((y.1.1,y.1.2.2.1,y.1.2.2.2.1,true,()),())
theorem af2:aT U (an (c8 (an (codeOf Tryz.f99) 1 58)) 116 7474) (a6 Pw Ph Fs):=cQ g0 (by kernel_rfl) af fun y=>by kernel_rfl
abbrev Ao:Shape:=⟨[ap 0,ad 22,ad 23],[],49⟩
abbrev Hl:List aN:=[(.ret,⟨[ar 2],[],49⟩),(.exit 0,⟨[],[],49⟩)]
noncomputable def AR(y:Ao.J):bJ Ao Hl:=
 bif(decide (y.1.2.2.1<y.1.2.1)) then
(Fs ((y.1.1,y.1.2.2.1,y.1.2.1,y.1.2.2.1,()),())).bind fun a=>
 bif a.1.2.2.2.1 then
 some (.inr (.inl ((false,()),())))
else
 some (.inl ((a.1.1,a.1.2.1,(IntKind.i64.wrap (a.1.2.2.1+(1:Int))),()),()))
else
 some (.inr (.inr ((),())))
noncomputable def HO:Ao.J->Option (aw Hl):=bn AR
theorem ajH:aT U (an (codeOf Tryz.f99) 1 58) (a6 Ao Hl HO):=bN g0 (by kernel_rfl) (bb af2 af) fun y=>by kernel_rfl
abbrev i99:Shape:=⟨[ap 0],[],49⟩
abbrev XT:Shape:=⟨[ar 2],[],49⟩
noncomputable def f99(a:i99.J):Option XT.J:=
(H9 ((a.1.1,()),())).bind fun b=>
 bif b.1.2.1 then
 some ((false,()),())
else
(HO ((b.1.1,(b.1.1.length:Int),(0:Int),()),())).bind fun c=>
(match c with
|.inl d=>
 some ((d.1.1,()),())
|.inr e=>
 some ((true,()),()))
noncomputable def Lj:aF:=aK ah Tryz.f99 i99 XT [] f99
theorem XE:aE U 99 Lj:=aL g0 Tryz.func99 (by kernel_rfl) (bb ajI (bb ajH af)) (fun y=>by kernel_rfl) fun a=>by kernel_rfl
def iH(b:UInt8):Bool:=decide ((97:Int)<=(b.toNat:Int))&&decide ((b.toNat:Int)<=122)
def cL(b:UInt8):Bool:=decide ((48:Int)<=(b.toNat:Int))&&decide ((b.toNat:Int)<=57)
def within(n cT hi:Int):Bool:=decide (cT<=n)&&decide (n<=hi)
theorem nA(a):f75 a=some ((within a.1.1 a.1.2.1 a.1.2.2.1,()),()):=by
 simp only[f75,within,ge_iff_le];cases decide (a.1.2.1<=a.1.1)<;>rfl
def iA(s:F):Bool:=allI (fun i x=>iH x||(!(i==0)&&cL x)) 0 s&&within s.length 1 10
theorem O8(a)(hs:am a.1.1.length):f87 a=some ((iA a.1.1,()),()):=by
 obtain⟨⟨s,u⟩,b7⟩:=a;have key:HU ((s,((0:Int),())),())=some (bif allI (fun i x=>iH x||(!(i==0)&&cL x)) 0 s then .inr ((s,()),()) else .inl ((false,()),())):=by
  refine fl AX s (fun i=>((s,((i:Int),())),())) _ _ _ (fun i x hx=>?_) ?_
  ·have hi:=ct hx;have hw:am i:=by unfold am at*;simp only at hs;omega
   simp only[AX,bZ hi,cond_true,G0,Ft,bQ,hx,Option.bind_some,bK hw,ge_iff_le,VT];unfold iH cL;by_cases h1:(97:Int)<=(x.toNat:Int)<;>by_cases h2:(x.toNat:Int)<=122<;>cases h3:(i==0)<;>by_cases ay:(48:Int)<=(x.toNat:Int)<;>by_cases bo:(x.toNat:Int)<=57<;>simp[h1,h2,h3,ay,bo,bK hw,bQ,hx,VT,n8,mX,-beq_iff_eq]
  ·simp only[AX,cX,cond_false]
 simp only[f87,key,Option.bind_some];unfold iA;cases allI (fun i x=>iH x||(!(i==0)&&cL x)) 0 s with
 |false=>rfl
 |true=>simp only[cond_true,nA,Option.bind_some,Bool.true_and]
theorem Na(b:UInt8)(r:F):iA (b::r)=(iH b&&(b::r).all (fun x=>iH x||cL x)&&decide (((b::r).length:Int)<=10)):=by
 unfold iA;simp only[allI,List.all_cons];have:allI (fun i x=>iH x||(!(i==0)&&cL x)) (0+1) r=r.all (fun x=>iH x||cL x):=by
  have hz:∀(i:Nat) (x:UInt8),1<=i->x∈r->(iH x||(!(i==0)&&cL x))=(iH x||cL x):=by
   intro i x hi _;have:(i==0)=false:=by simp;omega
   rw[this];simp
  rw[NU (lp:=fun _ x=>iH x||cL x) r 1 hz,fX]
 rw[this];unfold within;have:decide ((1:Int)<=((b::r).length:Int))=true:=by simp only[List.length_cons,decide_eq_true_eq];omega
 rw[this];cases iH b<;>simp
theorem MH(a)(hs:am a.1.1.length):f99 a=some ((iA a.1.1,()),()):=by
 obtain⟨⟨s,u⟩,b7⟩:=a;have key:HO ((s,((s.length:Int),((0:Int),()))),())=some (bif allI (fun _ x=>iH x||cL x) 0 s then .inr ((),()) else .inl ((false,()),())):=by
  refine fl AR s (fun i=>((s,((s.length:Int),((i:Int),()))),())) _ _ _ (fun i x hx=>?_) ?_
  ·have hi:=ct hx;have hw:am i:=by unfold am at*;simp only at hs;omega
   simp only[AR,bZ hi,cond_true,Fs,bQ,hx,Option.bind_some,bK hw,n8,mX];unfold iH cL;by_cases h1:(97:Int)<=(x.toNat:Int)<;>by_cases h2:(x.toNat:Int)<=122<;>by_cases ay:(48:Int)<=(x.toNat:Int)<;>by_cases bo:(x.toNat:Int)<=57<;>simp[h1,h2,ay,bo,bK hw,bQ,hx,n8,mX]
  ·simp only[AR,cX,cond_false]
 rw[fX] at key;cases s with
 |nil=>rfl
 |cons b r=>
  have hb:aP (b::r) 0=some b:=rfl;simp only[f99,H9,hb,Option.bind_some,n8,mX,Na];have he:((b::r)==([]:F))=false:=rfl;have hl:iH b=(decide ((97:Int)<=(b.toNat:Int))&&decide ((b.toNat:Int)<=122)):=rfl;rw[he,hl];by_cases h1:(97:Int)<=(b.toNat:Int)<;>by_cases h2:(b.toNat:Int)<=122<;>by_cases h3:((b::r).length:Int)<=10<;>
   simp only[h1,h2,h3,decide_true,decide_false,Bool.not_true,Bool.not_false,cond_true,cond_false,Option.bind_some,Bool.true_and,Bool.and_true,Bool.false_and,Bool.and_false]
  rw[key];generalize List.all (b::r) (fun x=>iH x||cL x)=q
  cases q<;>rfl
def dU(n:Int)(b:UInt8):Int:=n*10+((b.toNat:Int)-48)
def c_(s:F):Int:=s.foldl dU 0
def hY:F->Bool
 |b::_::_=>(b.toNat:Int)==48
 |_=>false
def fp(s:F):Bool:=s.all cL&&!(s==[])&&!hY s&&decide (s.length<=6)&&decide (c_ s<=999)
theorem iz{b:UInt8}(h:cL b=true):48<=(b.toNat:Int)/\(b.toNat:Int)<=57:=by
 simpa[cL] using h
theorem ajp{b:UInt8}(h:cL b=true):IntKind.u8.wrap ((b.toNat:Int)-48)=(b.toNat:Int)-48:=by
 have:=iz h;rw[IntKind.wrap_u8];omega
theorem Dy{n:Int}{b:UInt8}{i:Nat}(h:cL b=true)(h0:0<=n)(h1:n<10^i):0<=dU n b/\dU n b<10^(i+1):=by
 have:=iz h;unfold dU;rw[Int.pow_succ];omega
theorem aiz{i:Nat}(h:i<=9):(10:Int)^i<=1000000000:=by
 have:i=0\/i=1\/i=2\/i=3\/i=4\/i=5\/i=6\/i=7\/i=8\/i=9:=by omega
 rcases this with rfl|rfl|rfl|rfl|rfl|rfl|rfl|rfl|rfl|rfl<;>decide
theorem D7{n:Int}{b:UInt8}{i:Nat}(h:cL b=true)(hi:i<=8)(h0:0<=n)(h1:n<10^i):
  IntKind.i64.wrap (IntKind.i64.wrap (n*10)+IntKind.i64.wrap (IntKind.u8.wrap ((b.toNat:Int)-48)))=dU n b:=by
 have Z:=iz h;have hp:=aiz (show i<=9 by omega)
 rw[ajp h,ee (n:=n*10) (by omega) (by omega),ee (n:=(b.toNat:Int)-48) (by omega) (by omega),ee (by omega) (by omega)]
 rfl
theorem FJ(a)(hs:am a.1.1.length):f74 a=some ((bif a.1.1.all cL&&decide (a.1.1.length<=6)&&!(a.1.1==[])&&!hY a.1.1 then c_ a.1.1 else-1,()),()):=by
 obtain⟨⟨s,u⟩,b7⟩:=a;have key:HV ((s,((0:Int),((0:Int),()))),())=some (bif allI (fun i x=>cL x&&decide (i<6)) 0 s then .inr ((s,(c_ s,())),()) else .inl ((((-1):Int),()),())):=by
  have:=k1 AY s (fun i n=>((s,(n,((i:Int),()))),())) (fun i x n=>some (bif cL x&&decide (i<6) then .inl (dU n x) else .inr (.inl ((((-1):Int),()),())))) (fun n=>.inr ((s,(n,())),()))
   (fun i n=>0<=n/\n<10^i/\(i<=6)) (0:Int) ⟨by decide,by decide,by decide⟩ (fun i x n hx dk=>?_) (fun n _=>?_)
  ·exact this.trans (by rw[xo];rfl)
  ·have hi:=ct hx;have hw:am i:=by unfold am at*;simp only at hs;omega
   obtain⟨h0,h1,cc⟩:=dk;refine⟨?_,fun aD ai=>?_⟩
   ·simp only[AY,bZ hi,cond_true,Fu,bQ,hx,Option.bind_some,bK hw,n8,mX,K8];have anH:decide ((6:Int)<=(i:Int))=!decide (i<6):=by by_cases h:i<6<;>simp[h]<;>omega
    rw[anH];cases Z:cL x with
    |false=>
     unfold cL at Z;by_cases ay:(48:Int)<=(x.toNat:Int)<;>by_cases bo:(x.toNat:Int)<=57<;>simp[ay,bo] at Z ⊢
    |true=>
     obtain⟨ay,bo⟩:=iz Z;cases au:decide (i<6) with
     |false=>simp[ay,bo]
     |true=>
      have au:i<6:=by simpa using au
      have:=D7 (i:=i) Z (by omega) h0 h1
      simp only[ay,bo,decide_true,Bool.not_true,Bool.not_false,cond_true,cond_false,Option.bind_some,bQ,hx,this,bK hw,Bool.and_true,Option.map_some]
   ·simp only[Option.some.injEq] at ai;cases au:(cL x&&decide (i<6)) with
    |false=>rw[au] at ai;cases ai
    |true=>
     rw[au] at ai;simp only[cond_true,Sum.inl.injEq] at ai;simp only[Bool.and_eq_true,decide_eq_true_eq] at au;subst ai;have:=Dy au.1 h0 h1;exact⟨this.1,this.2,by omega⟩
  ·simp only[AY,cX,cond_false]
 rw[yO,fX,ajc] at key;simp only[f74,key,Option.bind_some];cases s with
 |nil=>rfl
 |cons b r=>
  have hb:aP (b::r) 0=some b:=rfl;have he:((b::r)==([]:F))=false:=rfl;have hz:(((b::r).length:Int)==0)=false:=by simp only[List.length_cons,beq_eq_false_iff_ne,ne_eq];omega
  have hl:decide (((b::r).length:Int)>1)=!(r==[]):=by cases r<;>simp;omega
  simp only[List.isEmpty_cons,Bool.false_or,Nat.zero_add,he,Bool.not_false,Bool.and_true];cases au:(List.all (b::r) cL&&decide ((b::r).length<=6)) with
  |false=>rfl
  |true=>
   simp only[cond_true,H_,hz,Bool.not_false,hl,hb,Option.bind_some,Bool.true_and];cases r with
   |nil=>rfl
   |cons c r=>
    have:((c::r)==([]:F))=false:=rfl;rw[this];simp only[Bool.not_false,cond_true,Option.bind_some,hY];cases ((b.toNat:Int)==48)<;>rfl
theorem ado:∀(r:F) (n:Int) (k:Nat),r.all cL=true->0<=n->10^k<=n->10^(k+r.length)<=r.foldl dU n:=by
 intro r;induction r with
 |nil=>intro n k _ _ h;exact h
 |cons b r ih=>
  intro n k Z h0 h;simp only[List.all_cons,Bool.and_eq_true] at Z;have hb:=iz Z.1;have hs:10^(k+1)<=dU n b:=by unfold dU;rw[Int.pow_succ];omega
  have:=ih (dU n b) (k+1) Z.2 (by unfold dU;omega) hs
  simp only[List.length_cons,List.foldl_cons];rw[show k+(r.length+1)=k+1+r.length by omega]
  exact this
theorem agz{n:Nat}(h:6<=n):(1000000:Int)<=10^n:=by
 induction n with
 |zero=>omega
 |succ n ih=>
  by_cases cc:6<=n
  ·have:=ih cc;rw[Int.pow_succ];omega
  ·have:n=5:=by omega
   subst this;decide
theorem ahr{s:F}(Z:s.all cL=true)(hl:hY s=false)(iy:7<=s.length):999<c_ s:=by
 match s,iy with
 |b::c::r,iy=>
  simp only[hY,beq_eq_false_iff_ne,ne_eq] at hl;simp only[List.all_cons,Bool.and_eq_true] at Z;have hb:=iz Z.1;have hc:=iz Z.2.1;have hs:(10:Int)^0<=dU 0 b:=by unfold dU;simp;omega
  have:=ado (c::r) (dU 0 b) 0 (by simp[Z.2.1,Z.2.2]) (by unfold dU;omega) hs
  have h2:(1000000:Int)<=10^(0+(c::r).length):=agz (by simp only[List.length_cons] at iy ⊢;omega)
  show 999<List.foldl dU (dU 0 b) (c::r);omega
theorem afs(a)(hs:am a.1.1.length)(hQ:a.1.2.1=999):f115 a=some ((bif fp a.1.1 then c_ a.1.1 else 0,(fp a.1.1,())),()):=by
 obtain⟨⟨s,m,u⟩,b7⟩:=a;obtain rfl:m=999:=hQ;have key:s.length<=9->rR ((s,((999:Int),((0:Int),((s.length:Int),((0:Int),()))))),())=some (bif allI (fun i x=>cL x) 0 s then .inr (((999:Int),(c_ s,())),()) else .inl (((0:Int),(false,())),())):=by
  intro hQ;have:=k1 pO s (fun i n=>((s,((999:Int),(n,((s.length:Int),((i:Int),()))))),())) (fun i x n=>some (bif cL x then .inl (dU n x) else .inr (.inl (((0:Int),(false,())),())))) (fun n=>.inr (((999:Int),(n,())),()))
   (fun i n=>0<=n/\n<10^i/\(i<=9)) (0:Int) ⟨by decide,by decide,by decide⟩ (fun i x n hx dk=>?_) (fun n _=>?_)
  ·exact this.trans (by rw[xo];rfl)
  ·have hi:=ct hx;have hw:am i:=by unfold am at*;simp only at hs;omega
   obtain⟨h0,h1,cc⟩:=dk;refine⟨?_,fun aD ai=>?_⟩
   ·simp only[pO,bZ hi,cond_true,xB,bQ,hx,Option.bind_some,bK hw,n8,mX,K8];cases Z:cL x with
    |false=>
     unfold cL at Z;by_cases ay:(48:Int)<=(x.toNat:Int)<;>by_cases bo:(x.toNat:Int)<=57<;>simp[ay,bo] at Z ⊢
    |true=>
     obtain⟨ay,bo⟩:=iz Z;have:=D7 (i:=i) Z (by omega) h0 h1
     simp only[ay,bo,decide_true,Bool.not_true,Bool.not_false,cond_true,cond_false,Option.bind_some,bQ,hx,this,bK hw,Bool.and_true,Option.map_some]
   ·simp only[Option.some.injEq] at ai;cases au:cL x with
    |false=>rw[au] at ai;cases ai
    |true=>
     rw[au] at ai;simp only[cond_true,Sum.inl.injEq] at ai;subst ai;have:=Dy au h0 h1;exact⟨this.1,this.2,by omega⟩
  ·simp only[pO,cX,cond_false]
 rw[fX] at key;cases s with
 |nil=>rfl
 |cons b r=>
  have hb:aP (b::r) 0=some b:=rfl;have he:((b::r)==([]:F))=false:=rfl;have hl:decide (((b::r).length:Int)>1)=!(r==[]):=by cases r<;>simp;omega
  have hQ:decide (((b::r).length:Int)>9)=!decide ((b::r).length<=9):=by by_cases h:(b::r).length<=9<;>simp only[h,decide_true,decide_false,Bool.not_true,Bool.not_false,decide_eq_true_eq,decide_eq_false_iff_not]<;>omega
  have qf:hY (b::r)=(!(r==[])&&(b.toNat:Int)==48):=by cases r<;>rfl
  simp only[f115,z1,he,hl,hQ,Bool.not_false,cond_true,Bool.not_not,hb,Option.bind_some];have fin:(b::r).length<=9->hY (b::r)=false->((rR ((b::r,((999:Int),((0:Int),(((b::r).length:Int),((0:Int),()))))),())).bind fun II=>match II with
    |.inl vC=>some ((vC.1.1,(vC.1.2.1,())),())
    |.inr ql=>bif decide (ql.1.2.1>ql.1.1) then some (((0:Int),(false,())),()) else some ((ql.1.2.1,(true,())),()))=
    some ((bif fp (b::r) then c_ (b::r) else 0,(fp (b::r),())),()):=by
   intro hQ jH;rw[key hQ];unfold fp;rw[he,jH];cases Z:List.all (b::r) cL with
   |false=>rfl
   |true=>
    simp only[cond_true,Option.bind_some,Bool.not_false,Bool.true_and,mX];by_cases cc:(b::r).length<=6
    ·simp only[cc,decide_true,Bool.true_and];cases decide (c_ (b::r)<=999)<;>rfl
    ·have:=ahr Z jH (by omega)
     have:decide (c_ (b::r)<=999)=false:=by simp only[decide_eq_false_iff_not];omega
     rw[this];simp only[cc,decide_false,Bool.false_and];rfl
  by_cases au:(b::r).length<=9
  ·simp only[au,decide_true,cond_true];cases hr:(r==[]) with
   |true=>
    simp only[Bool.not_true,cond_false,Option.bind_some];exact fin au (by rw[qf,hr];rfl)
   |false=>
    simp only[Bool.not_false,cond_true,Option.bind_some];cases pe:((b.toNat:Int)==48) with
    |true=>
     have:fp (b::r)=false:=by unfold fp;rw[qf,hr,pe];simp
     rw[this];rfl
    |false=>
     simp only[cond_false];exact fin au (by rw[qf,hr,pe];rfl)
  ·have:fp (b::r)=false:=by
    unfold fp;have:decide ((b::r).length<=6)=false:=by simp only[decide_eq_false_iff_not];omega
    rw[this];simp
   simp only[au,decide_false,cond_false,Option.bind_some,cond_true,this]
abbrev yQ:Shape:=⟨[ap 0,(1,.ak (.d (.int .u8))),ad 2,bf 7 3000448,ad 8,ad 9],[be 3000448 .str 7 0],43⟩
abbrev uE:List aN:=[(.exit 0,⟨[ap 0,bf 7 3000448,ad 8],[be 3000448 .str 7 0],43⟩)]
noncomputable def ox(y:yQ.J):bJ yQ uE:=
 bif(decide (y.1.2.2.2.2.2.1<(y.1.1.length:Int))) then
 bif(decide ((y.2.1.length:Int)<y.1.2.2.1)) then
(aP y.1.1 y.1.2.2.2.2.2.1).bind fun a=>
 bif((a.toNat:Int)==y.1.2.1) then
(bw y.1.1 y.1.2.2.2.2.1 y.1.2.2.2.2.2.1).bind fun b=>
(cy 16 y.2.1 ([b]:List F)).bind fun c=>
 some (.inl ((y.1.1,y.1.2.1,y.1.2.2.1,(),(IntKind.i64.wrap (y.1.2.2.2.2.2.1+(1:Int))),(IntKind.i64.wrap (y.1.2.2.2.2.2.1+(1:Int))),()),c,()))
else
 some (.inl ((y.1.1,y.1.2.1,y.1.2.2.1,(),y.1.2.2.2.2.1,(IntKind.i64.wrap (y.1.2.2.2.2.2.1+(1:Int))),()),y.2.1,()))
else
 some (.inr ((y.1.1,(),y.1.2.2.2.2.1,()),y.2.1,()))
else
 some (.inr ((y.1.1,(),y.1.2.2.2.2.1,()),y.2.1,()))
noncomputable def uN:yQ.J->Option (aw uE):=bn ox
theorem ahH:aT U (an (codeOf Tryz.f73) 1 122) (a6 yQ uE uN):=bN g0 (by kernel_rfl) af fun y=>by kernel_rfl
abbrev i73:Shape:=⟨[ap 0,(1,.ak (.d (.int .u8))),ad 2],[],43⟩
abbrev Ya:Shape:=⟨[bf 6 3000384],[be 3000384 .str 6 0],43⟩
noncomputable def f73(a:i73.J):Option Ya.J:=
(uN ((a.1.1,a.1.2.1,a.1.2.2.1,(),(0:Int),(0:Int),()),([]:List F),())).bind fun b=>
(bw b.1.1 b.1.2.2.1 (b.1.1.length:Int)).bind fun c=>
(cy 16 b.2.1 ([c]:List F)).bind fun d=>
 some (((),()),d,())
noncomputable def tL:aF:=aK ah Tryz.f73 i73 Ya [] f73
theorem v7:aE U 73 tL:=aL g0 Tryz.func73 (by kernel_rfl) (bb ahH af) (fun y=>by kernel_rfl) fun a=>by kernel_rfl
abbrev cv(n:Nat):Prop:=n<=2097152
theorem pz(c:UInt8):∀s,bO c s≠[]:=by
 intro s;induction s with
 |nil=>intro h;cases h
 |cons b r ih=>
  unfold bO;cases b==c with
  |true=>intro h;cases h
  |false=>
   simp only[cond_false];split<;>intro h<;>cases h
def s8(acc:F):List F->List F
 |x::xs=>(acc++x)::xs
 |[]=>[acc]
theorem PT{L:List F}(h:L≠[]):s8 [] L=L:=by
 cases L with
 |nil=>exact absurd rfl h
 |cons x xs=>rfl
theorem ru(c:UInt8):∀s,(bO c s).length<=s.length+1:=by
 intro s;induction s with
 |nil=>exact Nat.le_refl _
 |cons b r ih=>
  unfold bO;cases b==c with
  |true=>simpa using ih
  |false=>
   simp only[cond_false];split
   ·rename_i x xs h;rw[h] at ih;simp at ih ⊢;omega
   ·simp
theorem xt(c:UInt8):∀s x,x∈bO c s->x.length<=s.length:=by
 intro s;induction s with
 |nil=>intro x h;simp[bO] at h;simp[h]
 |cons b r ih=>
  intro x h;unfold bO at h;cases hb:b==c with
  |true=>
   rw[hb,cond_true] at h;rcases List.mem_cons.1 h with rfl|h
   ·simp
   ·have:=ih x h;simp;omega
  |false=>
   rw[hb,cond_false] at h;split at h
   ·rename_i y bh hy;rcases List.mem_cons.1 h with rfl|h
    ·have:=ih y (by rw[hy];exact List.mem_cons_self);simp;omega
    ·have:=ih x (by rw[hy];exact List.mem_cons_of_mem _ h);simp;omega
   ·simp at h;simp[h]
theorem ag7{bm:Type}(c:UInt8)(s:F)(fin:Nat×List F->bm):∀(r:F) (k:Nat) (q:Nat×List F),r=s.drop k->k<=s.length->q.1<=k->
  ∃fr,eA (fun i x (q:Nat×List F)=>some (.inl (bif(x.toNat:Int)==(c.toNat:Int) then(i+1,q.2++[(s.take i).drop q.1]) else q):Sum (Nat×List F) bm)) fin k r q=some (fin fr)/\fr.1<=s.length/\
   fr.2++[s.drop fr.1]=q.2++s8 ((s.take k).drop q.1) (bO c r):=by
 intro r;induction r with
 |nil=>
  intro k q hr hk au;have hkl:k=s.length:=by
   have:=congrArg List.length hr;simp at this;omega
  refine⟨q,rfl,by omega,?_⟩
  rw[hkl,List.take_length];simp[bO,s8]
 |cons x r ih=>
  intro k q hr hk au;have hlt:k<s.length:=by
   have:=congrArg List.length hr;simp at this;omega
  have dp:r=s.drop (k+1):=by
   have:=congrArg List.tail hr;simpa using this
  have hx:s[k]? =some x:=by
   have:=congrArg (fun l=>l[0]?) hr
   simpa using this.symm
  simp only[eA];cases hc:((x.toNat:Int)==(c.toNat:Int)) with
  |true=>
   have Kq:x=c:=by
    simp only[beq_iff_eq] at hc;exact UInt8.toNat_inj.1 (by omega)
   simp only[cond_true];obtain⟨fr,h1,h2,h3⟩:=ih (k+1) (k+1,q.2++[(s.take k).drop q.1]) dp hlt (Nat.le_refl _);refine⟨fr,h1,h2,h3.trans ?_⟩;have e1:(s.take (k+1)).drop (k+1)=[]:=List.drop_eq_nil_of_le (by rw[List.length_take];omega)
   simp only[e1];rw[PT (pz c r)];subst Kq;have:bO x (x::r)=[]::bO x r:=by simp[bO]
   rw[this];simp[s8]
  |false=>
   have Kq:(x==c)=false:=by
    cases h:x==c with
    |false=>rfl
    |true=>rw[eq_of_beq h] at hc;simp at hc
   simp only[cond_false];obtain⟨fr,h1,h2,h3⟩:=ih (k+1) q dp hlt (by omega)
   refine⟨fr,h1,h2,h3.trans ?_⟩;have e1:(s.take (k+1)).drop q.1=(s.take k).drop q.1++[x]:=by
    rw[List.take_add_one,hx];rw[List.drop_append_of_le_length (by rw[List.length_take];omega)]
    rfl
   rw[e1];have:bO c (x::r)=s8 [x] (bO c r):=by
    rw[bO,Kq,cond_false];cases h:bO c r with
    |nil=>rfl
    |cons y bh=>rfl
   rw[this];cases h:bO c r with
   |nil=>exact absurd h (pz c r)
   |cons y bh=>simp[s8]
theorem P_(c:UInt8)(a)(hs:cv a.1.1.length)(hb:a.1.2.1=(c.toNat:Int))(hm:a.1.2.2.1=((a.1.1.length+1:Nat):Int)):f73 a=some (((),()),(bO c a.1.1,())):=by
 obtain⟨⟨s,b,m,u⟩,b7⟩:=a;obtain rfl:b=(c.toNat:Int):=hb;obtain rfl:m=((s.length+1:Nat):Int):=hm;have hs:s.length<=2097152:=hs;have key:=k1 ox s (fun i (q:Nat×List F)=>((s,((c.toNat:Int),(((s.length+1:Nat):Int),((),((q.1:Int),((i:Int),())))))),(q.2,())))
  (fun i x (q:Nat×List F)=>some (.inl (bif(x.toNat:Int)==(c.toNat:Int) then(i+1,q.2++[(s.take i).drop q.1]) else q))) (fun q=>(((s,((),((q.1:Int),()))),(q.2,())):aw uE))
  (fun i q=>q.1<=i/\q.2.length<=i) (0,[]) ⟨Nat.le_refl _,Nat.le_refl _⟩ (fun i x q hx dk=>?_) (fun q dk=>?_)
 ·obtain⟨fr,h1,h2,h3⟩:=ag7 c s (fun q=>(((s,((),((q.1:Int),()))),(q.2,())):aw uE)) s 0 (0,[]) rfl (Nat.zero_le _) (Nat.le_refl _)
  have key:uN ((s,((c.toNat:Int),(((s.length+1:Nat):Int),((),((0:Int),((0:Int),())))))),(([]:List F),()))=some ((s,((),((fr.1:Int),()))),(fr.2,())):=key.trans h1;simp only[f73,key,Option.bind_some];rw[gu h2];have h3:fr.2++[s.drop fr.1]=bO c s:=by
   rw[h3];simp only[List.take_zero,List.drop_nil,List.nil_append];exact PT (pz c s)
  have hl:fr.2.length<=s.length+1:=by
   have:=congrArg List.length h3;have ay:=ru c s;simp only[List.length_append,List.length_cons,List.length_nil] at this;omega
  simp only[Option.bind_some];rw[dS (by decide) (by unfold am;simp only[List.length_cons,List.length_nil];omega)]
  simp only[Option.bind_some,h3]
 ·have hi:=ct hx;have hw:am i:=by unfold am;omega
  obtain⟨h0,h1⟩:=dk;have hlt:decide ((q.2.length:Int)<((s.length+1:Nat):Int))=true:=bZ (by omega)
  refine⟨?_,fun fr nY=>?_⟩
  ·simp only[ox,bZ hi,cond_true,hlt,bQ,hx,Option.bind_some];cases hc:((x.toNat:Int)==(c.toNat:Int)) with
   |true=>
    simp only[cond_true];rw[pJ h0 (by omega)]
    simp only[Option.bind_some];rw[dS (by decide) (by unfold am;simp only[List.length_cons,List.length_nil];omega)]
    simp only[Option.bind_some,Option.map_some,bK hw]
   |false=>simp only[cond_false,Option.map_some,bK hw]
  ·simp only[Option.some.injEq,Sum.inl.injEq] at nY;subst nY;cases (x.toNat:Int)==(c.toNat:Int) with
   |true=>simp only[cond_true,List.length_append,List.length_cons,List.length_nil];omega
   |false=>simp only[cond_false];omega
 ·simp only[ox,cX,cond_false]
noncomputable def Tk:aF:=Er
theorem akX:aE U 271 Tk:=abb (fn:=Tryz.f271) (by kernel_rfl) (by kernel_rfl) (by kernel_rfl) (by kernel_rfl) (by kernel_rfl)
noncomputable abbrev aos:bg:=[(271,Tk)]
theorem apC:aW U (bd ah aos):=bc ⟨akX,⟨⟩⟩
abbrev i244:Shape:=⟨[ap 0,(1,.ak (.d (.int .u8)))],[],8⟩
abbrev T5:Shape:=⟨[ad 4],[],8⟩
noncomputable def f244(a:i244.J):Option T5.J:=
(some ()).bind fun awR=>
 some (((Lib.indexByte a.1.1 (a.1.2.1).toNat.toUInt8),()),())
noncomputable def V7:aF:=aK ah Tryz.f244 i244 T5 [] f244
theorem amj:aE U 244 V7:=aL apC Tryz.func244 (by kernel_rfl) af (fun y=>by kernel_rfl) fun a=>by kernel_rfl
noncomputable abbrev aoE:bg:=[(244,V7)]
theorem Xf:aW U (bd ah aoE):=bc ⟨amj,⟨⟩⟩
abbrev QF:Shape:=⟨[ap 0,ap 1,ad 5],[],143⟩
abbrev Ql:List aN:=[(.norm,⟨[ap 0,ap 1,ad 5,ar 16],[],143⟩)]
noncomputable def zH(y:QF.J):Option (aw Ql):=
 bif(!(y.1.2.2.1==(0:Int))) then
 some ((y.1.1,y.1.2.1,y.1.2.2.1,(y.1.2.1==y.1.1),()),())
else
 some ((y.1.1,y.1.2.1,y.1.2.2.1,true,()),())
theorem ahY:aT U (an (codeOf Tryz.f209) 1 56) (a6 QF Ql zH):=cQ Xf (by kernel_rfl) af fun y=>by kernel_rfl
abbrev i209:Shape:=⟨[ap 0,ap 1],[],143⟩
abbrev Uj:Shape:=⟨[ad 4],[],143⟩
noncomputable def f209(a:i209.J):Option Uj.J:=
(zH ((a.1.1,a.1.2.1,(a.1.2.1.length:Int),()),())).bind fun tU=>
 bif tU.1.2.2.2.1 then
 some (((0:Int),()),())
else
 bif(tU.1.2.2.1==(1:Int)) then
(aP tU.1.2.1 (0:Int)).bind fun LK=>
(f244 ((tU.1.1,(LK.toNat:Int),()),())).bind fun r8=>
 some ((r8.1.1,()),())
else
 bif(decide (tU.1.2.2.1>=(tU.1.1.length:Int))) then
 some ((((-1):Int),()),())
else
 none
noncomputable def Ju:aF:=aK ah Tryz.f209 i209 Uj [] f209
theorem Tx:aE U 209 Ju:=aL Xf Tryz.func209 (by kernel_rfl) (bb ahY af) (fun y=>by kernel_rfl) fun a=>by kernel_rfl
noncomputable abbrev aoC:bg:=[(209,Ju)]
theorem apK:aW U (bd ah aoC):=bc ⟨Tx,⟨⟩⟩
abbrev i212:Shape:=⟨[ap 0,ap 1],[],8⟩
abbrev Uh:Shape:=⟨[ad 4],[],8⟩
noncomputable def f212(a:i212.J):Option Uh.J:=
(f209 ((a.1.1,a.1.2.1,()),())).bind fun b=>
 some ((b.1.1,()),())
noncomputable def B8:aF:=aK ah Tryz.f212 i212 Uh [] f212
theorem z212:aE U 212 B8:=aL apK Tryz.func212 (by kernel_rfl) af (fun y=>by kernel_rfl) fun a=>by kernel_rfl
noncomputable abbrev Jl:Ctx:=bd ah [(212,B8)]
noncomputable def B3:Code:=codeOf Tryz.f266
noncomputable def nN:Code:=c8 (an B3 1 12)
noncomputable def Bn(p j:Nat):Oper:=(opsOf (an nN 24 p)).getD j default
noncomputable def Im(j:Nat):Oper:=(opsOf (an B3 1 7)).getD j default
theorem akl(c:UInt8)(r:F):f212 ((r,([c],())),())=some ((Lib.indexByte r c,()),()):=by
 have h0:aP ([c]:F) (0:Int)=some c:=rfl;have h1:((([c]:F).length:Int)==0)=false:=rfl;have h2:((([c]:F).length:Int)==1)=true:=rfl;have h3:((c.toNat:Int)).toNat.toUInt8=c:=by simp
 simp only[f212,f209,zH,f244,h0,h1,h2,h3,Bool.not_false,cond_true,cond_false,Option.bind_some,Option.bind];by_cases h:(([c]:F)==r)=true
 ·have:r=[c]:=(by simpa using h:[c]=r).symm
  subst this;simp[Lib.indexByte]<;>rfl
 ·simp[h]<;>rfl
theorem alT(c:UInt8)(r:F):exec (gJ Jl []) (an nN 24 96) 96 (mP 52 c r) (BU (gJ Jl []) 52 7 8 (an nN 24 194) (an nN 24 390) 194 390)=
 (f212 ((r,([c],())),())).bind fun q=>bif decide (q.1.1<0) then some (.inl (kL 52 c r)) else(bw r 0 (IntKind.i64.wrap (q.1.1+0))).bind fun x=>some (.inr ((q.1.1,x),kL 52 c r)):=by kernel_rfl
theorem S6:vf U 266:=
 aiM (C:=gJ Jl []) (bc ⟨z212,⟨⟩⟩) (fn:=Tryz.f266) (k:=52) (A:=an B3 1 2) (r5:=an nN 24 96) (c6:=an nN 24 194) (r7:=an nN 24 390) (r9:=an nN 24 783)
  (o0:=Bn 1564 0) (o1:=Bn 1564 1) (o2:=Bn 1564 2) (o3:=Bn 1564 3) (q0:=Im 0) (q1:=Im 1) (q2:=Im 2) (pA:=2) (p5:=96) (p6:=194) (p7:=390) (p9:=783) (t7:=7) (t8:=8) (a1:=39) (a2:=40)
  (t41:=41) (t42:=42) (u1:=49) (u2:=50) (ty:=#[9]) (Cm:=#[9])
  {Vt:=(by kernel_rfl),nt:=(by kernel_rfl),cO:=(by decide),fb:=(by kernel_rfl),Zo:=enters_of Tryz.func266 (by kernel_rfl) rfl,body:=⟨sF (an nN 24 1564),sF (an B3 1 7),(by kernel_rfl)⟩,wX:=(by kernel_rfl),wr:=(by kernel_rfl),
   bc:=⟨(by kernel_rfl),(by kernel_rfl),(by kernel_rfl),(by kernel_rfl),(by kernel_rfl),(by kernel_rfl),(by kernel_rfl)⟩,_u:=(by kernel_rfl),_t:=(by kernel_rfl),d2:=(by kernel_rfl),IV:=(by decide),c2:=(by kernel_rfl),d5:=(by kernel_rfl),
   kr:=⟨kX (by kernel_rfl) af,kX (by kernel_rfl) af,kX (by kernel_rfl) af,kX (by kernel_rfl) af,kX (by kernel_rfl) af⟩,
   dR:=fun c r=>(by kernel_rfl),hB:=fun c r=>(alT c r).trans (by rw[akl];rfl),bi:=fun c r i x v=>(by kernel_rfl),h3:=fun c r b=>(by kernel_rfl),Zl:=(by kernel_rfl),w6:=fun c r i=>(by kernel_rfl),Da:=fun c r v=>(by kernel_rfl)}
  (by kernel_rfl) (by decide)
noncomputable abbrev ao3:bg:=[(115,B9)]
theorem JR:aW U (bd ah ao3):=bc ⟨IB,⟨⟩⟩
abbrev Oq:Shape:=⟨[aM 2 2 0,aM 3 3 0,aM 4 4 0,ad 6,ar 7],[bv 5000128 .i64 2 0,aO 2 [.own 5000128],aO 3 [lB],bv 5000256 .i64 4 0,aO 4 [.own 5000256]],28⟩
abbrev N9:List aN:=[(.norm,⟨[aM 2 2 0,aM 3 3 0,aM 4 4 0,ad 6,ar 22],[bv 5000128 .i64 2 0,aO 2 [.own 5000128],aO 3 [lB],bv 5000256 .i64 4 0,aO 4 [.own 5000256]],28⟩)]
noncomputable def Ev(y:Oq.J):Option (aw N9):=
 bif(!(!y.1.2.2.2.2.1)) then
 some (((),(),(),y.1.2.2.2.1,((y.2.2.2.2.1.length:Int)==(4:Int)),()),y.2.1,((),()),(y.2.2.2.1.1,()),y.2.2.2.2.1,((),()),())
else
 some (((),(),(),y.1.2.2.2.1,true,()),y.2.1,((),()),(y.2.2.2.1.1,()),y.2.2.2.2.1,((),()),())
theorem aer:aT U (an (jV (an (codeOf Tryz.f151) 1 58)) 117 1876) (a6 Oq N9 Ev):=cQ JR (by kernel_rfl) af fun y=>by kernel_rfl
abbrev za:Shape:=⟨[aM 2 2 0,aM 3 3 0,aM 4 4 0],[bv 5000128 .i64 2 0,aO 2 [.own 5000128],aO 3 [lB],bv 5000256 .i64 4 0,aO 4 [.own 5000256]],28⟩
abbrev F3:List aN:=[(.norm,⟨[aM 2 2 0,aM 3 3 0,aM 4 4 0],[bv 5000128 .i64 2 0,aO 2 [.own 5000128],aO 3 [lB],bv 5000256 .i64 4 0,aO 4 [.own 5000256]],28⟩),(.ret,⟨[aM 2 2 0,aM 3 3 0],[bv 5000128 .i64 2 0,aO 2 [.own 5000128],aO 3 [lB]],28⟩)]
noncomputable def sb(x:F)(y:za.J):bJ za F3:=
(f115 ((x,(999:Int),()),())).bind fun a=>
(Ev (((),(),(),a.1.1,a.1.2.1,()),y.2.1,((),()),(y.2.2.2.1.1,()),y.2.2.2.2.1,((),()),())).bind fun b=>
 bif b.1.2.2.2.2.1 then
 some (.inr (.inr (((),(),()),([]:List Int),((),()),(false,()),())))
else
(cy 8 b.2.2.2.2.1 ([b.1.2.2.2.1]:List Int)).bind fun c=>
 some (.inl (((),(),(),()),b.2.1,((),()),(b.2.2.2.1.1,()),c,((),()),()))
noncomputable def uR(y:za.J):Option (aw F3):=
 some (.inl (((),(),(),()),y.2.1,((),()),(y.2.2.2.1.1,()),y.2.2.2.2.1,((),()),()))
theorem aig:aT U (an (codeOf Tryz.f151) 1 58) (rP 266 9 za F3 sb uR):=M' (eM:=10) JR S6 (by kernel_rfl) (bb aer af) (by kernel_rfl) (fun x y=>by kernel_rfl) fun y=>by kernel_rfl
abbrev i151:Shape:=⟨[ap 0],[],28⟩
abbrev UQ:Shape:=⟨[aM 2 2 0,aM 3 3 0],[bv 5000128 .i64 2 0,aO 2 [.own 5000128],aO 3 [lB]],28⟩
noncomputable def f151(a:i151.J):Option UQ.J:=
(bif Nat.ble a.1.1.length kj then im sb uR (bO (46:UInt8) a.1.1) (((),(),(),()),([]:List Int),((),()),(false,()),([]:List Int),((),()),()) else none).bind fun b=>
(match b with
|.inl c=>
 some (((),(),()),c.2.2.2.2.1,((),()),(true,()),())
|.inr d=>
 some (((),(),()),d.2.1,((),()),(d.2.2.2.1.1,()),()))
noncomputable def JB:aF:=aK ah Tryz.f151 i151 UQ [] f151
theorem TB:aE U 151 JB:=aL JR Tryz.func151 (by kernel_rfl) (bb aig af) (fun y=>by kernel_rfl) fun a=>by kernel_rfl
noncomputable abbrev apx:bg:=[(151,JB)]
theorem ap2:aW U (bd ah apx):=bc ⟨TB,⟨⟩⟩
abbrev i100:Shape:=⟨[ap 0],[],11⟩
abbrev Vn:Shape:=⟨[ar 2],[],11⟩
noncomputable def f100(a:i100.J):Option Vn.J:=
(f151 ((a.1.1,()),())).bind fun b=>
 some ((b.2.2.2.1.1,()),())
noncomputable def B_:aF:=aK ah Tryz.f100 i100 Vn [] f100
theorem IC:aE U 100 B_:=aL ap2 Tryz.func100 (by kernel_rfl) af (fun y=>by kernel_rfl) fun a=>by kernel_rfl
noncomputable abbrev apw:bg:=[(99,Lj),(100,B_)]
theorem XA:aW U (bd ah apw):=bc ⟨XE,IC,⟨⟩⟩
abbrev PF:Shape:=⟨[aM 1 1 0,ad 8],[aO 1 [ae,br,ae]],21⟩
abbrev Pr:List aN:=[(.norm,⟨[aM 1 1 0,ar 14],[aO 1 [ae,br,ae]],21⟩)]
noncomputable def FA(y:PF.J):Option (aw Pr):=
 bif(y.1.2.1==(1:Int)) then
 some (((),(y.1.2.1==(1:Int)),()),(y.2.1.1,y.2.1.2.1,y.2.1.2.2.1,()),())
else
 bif(y.1.2.1==(2:Int)) then
 some (((),(y.1.2.1==(2:Int)),()),(y.2.1.1,y.2.1.2.1,y.2.1.2.2.1,()),())
else
 some (((),(y.1.2.1==(3:Int)),()),(y.2.1.1,y.2.1.2.1,y.2.1.2.2.1,()),())
theorem agw:aT U (an (codeOf Tryz.f102) 1 470) (a6 PF Pr FA):=cQ XA (by kernel_rfl) af fun y=>by kernel_rfl
abbrev i102:Shape:=⟨[b_ 0 [ae,br,ae]],[],21⟩
abbrev Vm:Shape:=⟨[ar 2],[],21⟩
noncomputable def f102(a:i102.J):Option Vm.J:=
(f99 ((a.1.1.1,()),())).bind fun b=>
 bif(!b.1.1) then
 some ((false,()),())
else
 bif(a.1.1.2.1==(0:Int)) then
 some (((a.1.1.2.2.1==([]:F)),()),())
else
(FA (((),a.1.1.2.1,()),(a.1.1.1,a.1.1.2.1,a.1.1.2.2.1,()),())).bind fun c=>
 bif c.1.2.1 then
(f100 ((c.2.1.2.2.1,()),())).bind fun d=>
 some ((d.1.1,()),())
else
 some ((false,()),())
noncomputable def vW:aF:=aK ah Tryz.f102 i102 Vm [] f102
theorem BN:aE U 102 vW:=aL XA Tryz.func102 (by kernel_rfl) (bb agw af) (fun y=>by kernel_rfl) fun a=>by kernel_rfl
noncomputable abbrev apa:bg:=[(73,tL),(74,CW),(75,oa)]
theorem Xp:aW U (bd ah apa):=bc ⟨v7,JZ,z75,⟨⟩⟩
abbrev yn:Shape:=⟨[bf 4 3000256,bf 5 3000320,ad 6],[be 3000256 .str 4 0,be 3000320 .i64 5 0],37⟩
abbrev pI:List aN:=[(.ret,⟨[bf 2 3000128,ar 3],[be 3000128 .i64 2 0],37⟩),(.exit 0,⟨[bf 4 3000256,bf 5 3000320],[be 3000256 .str 4 0,be 3000320 .i64 5 0],37⟩)]
noncomputable def yI(y:yn.J):bJ yn pI:=
 bif(decide (y.1.2.2.1<(y.2.1.length:Int))) then
(a_ y.2.1.length y.1.2.2.1).bind fun a=>
(y.2.1[a]?).bind fun b=>
(f74 ((b,()),())).bind fun c=>
(f75 ((c.1.1,(0:Int),(999:Int),()),())).bind fun d=>
 bif(!d.1.1) then
 some (.inr (.inl (((),false,()),y.2.2.1,())))
else
(cy 8 y.2.2.1 ([c.1.1]:List Int)).bind fun e=>
 some (.inl (((),(),(IntKind.i64.wrap (y.1.2.2.1+(1:Int))),()),y.2.1,e,()))
else
 some (.inr (.inr (((),(),()),y.2.1,y.2.2.1,())))
noncomputable def Fj:yn.J->Option (aw pI):=bn yI
theorem agp:aT U (an (codeOf Tryz.f140) 1 122) (a6 yn pI Fj):=bN Xp (by kernel_rfl) af fun y=>by kernel_rfl
abbrev i140:Shape:=⟨[ap 0],[],37⟩
abbrev U0:Shape:=⟨[bf 2 3000128,ar 3],[be 3000128 .i64 2 0],37⟩
noncomputable def f140(a:i140.J):Option U0.J:=
(f73 ((a.1.1,(46:Int),(IntKind.i64.wrap ((a.1.1.length:Int)+(1:Int))),()),())).bind fun b=>
(Fj (((),(),(0:Int),()),b.2.1,([]:List Int),())).bind fun c=>
(match c with
|.inl d=>
 some (((),d.1.2.1,()),d.2.1,())
|.inr e=>
 some (((),(decide ((e.2.1.length:Int)<=(4:Int))),()),e.2.2.1,()))
noncomputable def JG:aF:=aK ah Tryz.f140 i140 U0 [] f140
theorem TF:aE U 140 JG:=aL Xp Tryz.func140 (by kernel_rfl) (bb agp af) (fun y=>by kernel_rfl) fun a=>by kernel_rfl
noncomputable abbrev atp:bg:=[(140,JG)]
theorem auc:aW U (bd ah atp):=bc ⟨TF,⟨⟩⟩
abbrev i88:Shape:=⟨[ap 0],[],11⟩
abbrev X2:Shape:=⟨[ar 2],[],11⟩
noncomputable def f88(a:i88.J):Option X2.J:=
(f140 ((a.1.1,()),())).bind fun b=>
 some ((b.1.2.1,()),())
noncomputable def Lm:aF:=aK ah Tryz.f88 i88 X2 [] f88
theorem XG:aE U 88 Lm:=aL auc Tryz.func88 (by kernel_rfl) af (fun y=>by kernel_rfl) fun a=>by kernel_rfl
noncomputable abbrev aoL:bg:=[(75,oa),(87,Ln),(88,Lm)]
theorem apN:aW U (bd ah aoL):=bc ⟨z75,z87,XG,⟨⟩⟩
abbrev i192:Shape:=⟨[b_ 0 [ae,br,ae]],[],26⟩
abbrev Ut:Shape:=⟨[ar 2],[],26⟩
noncomputable def f192(a:i192.J):Option Ut.J:=
(f87 ((a.1.1.1,()),())).bind fun b=>
 bif b.1.1 then
 bif(a.1.1.2.1==(0:Int)) then
 bif(!(a.1.1.2.2.1==([]:F))) then
(f75 ((a.1.1.2.1,(1:Int),(3:Int),()),())).bind fun c=>
 bif c.1.1 then
(f88 ((a.1.1.2.2.1,()),())).bind fun d=>
 some ((d.1.1,()),())
else
 some ((false,()),())
else
 some ((true,()),())
else
(f75 ((a.1.1.2.1,(1:Int),(3:Int),()),())).bind fun e=>
 bif e.1.1 then
(f88 ((a.1.1.2.2.1,()),())).bind fun f=>
 some ((f.1.1,()),())
else
 some ((false,()),())
else
 some ((false,()),())
noncomputable def Jy:aF:=aK ah Tryz.f192 i192 Ut [] f192
theorem Tz:aE U 192 Jy:=aL apN Tryz.func192 (by kernel_rfl) af (fun y=>by kernel_rfl) fun a=>by kernel_rfl
theorem Nq:∀(r:F) (n:Int),r.all cL=true->0<=n->0<=r.foldl dU n:=by
 intro r;induction r with
 |nil=>intro n _ h;exact h
 |cons b r ih=>
  intro n Z h;simp only[List.all_cons,Bool.and_eq_true] at Z;have hb:=iz Z.1;exact ih _ Z.2 (by unfold dU;omega)
def hX(s:F):List F:=bO 46 s
def dZ(s:F):Bool:=(hX s).all fp&&decide ((hX s).length<=4)
def hA(s:F):List Int:=(hX s).map c_
theorem abP(x:F):within (bif x.all cL&&decide (x.length<=6)&&!(x==[])&&!hY x then c_ x else-1) 0 999=fp x:=by
 unfold fp within;cases h1:x.all cL with
 |false=>simp
 |true=>
  have:=Nq x 0 h1 (Int.le_refl _);have hv:decide ((0:Int)<=c_ x)=true:=by simp only[decide_eq_true_eq];exact this
  cases h2:decide (x.length<=6)<;>cases h3:(x==[])<;>cases ay:hY x<;>simp[hv]
theorem DV(a)(hs:cv a.1.1.length):∃out,f140 a=some (((),(dZ a.1.1,())),(out,()))/\(dZ a.1.1=true->out=hA a.1.1):=by
 obtain⟨⟨s,u⟩,b7⟩:=a;have hs:s.length<=2097152:=hs;have hlen:=ru 46 s;have fG:f73 ((s,((46:Int),((IntKind.i64.wrap ((s.length:Int)+(1:Int))),()))),())=some (((),()),(hX s,())):=
  P_ 46 _ hs rfl (bK (by unfold am;omega))
 have key:=k1 yI (hX s) (fun i (out:List Int)=>(((),((),((i:Int),()))),(hX s,(out,()))))
  (fun i x out=>some (bif fp x then .inl (out++[c_ x]) else .inr ((.inl (((),(false,())),(out,()))):aw pI))) (fun out=>((.inr (((),((),())),(hX s,(out,())))):aw pI))
  (fun i out=>out.length<=i) [] (Nat.le_refl _) (fun i x out hx dk=>?_) (fun out _=>?_)
 ·have fold:∀(r:List F) (k:Nat) (out:List Int),eA (fun i x out=>some (bif fp x then .inl (out++[c_ x]) else .inr ((.inl (((),(false,())),(out,()))):aw pI))) (fun out=>((.inr (((),((),())),(hX s,(out,())))):aw pI)) k r out=
    some (bif r.all fp then(.inr (((),((),())),(hX s,(out++r.map c_,())))) else(.inl (((),(false,())),(out++(r.takeWhile fp).map c_,())))):=by
   intro r;induction r with
   |nil=>intro k out;simp[eA]
   |cons x r ih=>
    intro k out;simp only[eA,List.all_cons];cases hn:fp x with
    |false=>simp[hn]
    |true=>simp only[cond_true,Bool.true_and];rw[ih];simp[hn,List.append_assoc]
  have key:Fj (((),((),((0:Int),()))),(hX s,(([]:List Int),())))=_:=key.trans (fold (hX s) 0 []);simp only[f140,fG,Option.bind_some,key,List.nil_append];unfold dZ;cases mJ:(hX s).all fp with
  |false=>exact⟨_,rfl,fun h=>by cases h⟩
  |true=>
   simp only[cond_true,Bool.true_and];have:decide (((hX s).length:Int)<=4)=decide ((hX s).length<=4):=by by_cases h:(hX s).length<=4<;>simp[h]<;>omega
   rw[this];exact⟨_,rfl,fun _=>rfl⟩
 ·have hi:=ct hx;have vp:(hX s).length<=s.length+1:=hlen;have hw:am i:=by unfold am;omega
  have hxl:x.length<=s.length:=xt 46 s x (List.mem_of_getElem? hx);refine⟨?_,fun aD ai=>?_⟩
  ·simp only[yI,bZ hi,cond_true,fm hi,hx,Option.bind_some];rw[FJ _ (show am x.length by unfold am;omega)]
   simp only[Option.bind_some,nA,abP];cases hn:fp x with
   |false=>rfl
   |true=>
    have hv:(bif x.all cL&&decide (x.length<=6)&&!(x==[])&&!hY x then c_ x else-1)=c_ x:=by
     unfold fp at hn;simp only[Bool.and_eq_true] at hn;obtain⟨⟨⟨⟨h1,h2⟩,h3⟩,ay⟩,bo⟩:=hn;rw[h1,ay,h2,h3];rfl
    simp only[Bool.not_true,cond_false,hv,cond_true];rw[dS (by decide) (by unfold am;simp only[List.length_cons,List.length_nil];omega)]
    simp only[Option.bind_some,bK hw,Option.map_some]
  ·simp only[Option.some.injEq] at ai;cases hn:fp x with
   |false=>rw[hn] at ai;cases ai
   |true=>
    rw[hn] at ai;simp only[cond_true,Sum.inl.injEq] at ai;subst ai;simp only[List.length_append,List.length_cons,List.length_nil];omega
 ·simp only[yI,cX,cond_false]
theorem MW(a)(hs:cv a.1.1.length):f88 a=some ((dZ a.1.1,()),()):=by
 obtain⟨out,h,_⟩:=DV ((a.1.1,()),()) hs;simp only[f88,h,Option.bind_some]
theorem Do(a)(hs:cv a.1.1.length):f151 a=some (((),((),())),((bif dZ a.1.1 then hA a.1.1 else []),(((),()),((dZ a.1.1,()),())))):=by
 obtain⟨⟨s,u⟩,b7⟩:=a;have hs:s.length<=2097152:=hs;have Jd:Nat.ble s.length kj=true:=Nat.ble_eq_true_of_le (by unfold kj;omega)
 have fold:∀(r:List F) (out:List Int),(∀x,x∈r->x.length<=s.length)->out.length<=4->
   im sb uR r (((),((),((),()))),(([]:List Int),(((),()),((false,()),(out,(((),()),()))))))=
    some (bif r.all fp&&decide (out.length+r.length<=4) then(.inl (((),((),((),()))),(([]:List Int),(((),()),((false,()),(out++r.map c_,(((),()),()))))))) else(.inr (((),((),())),(([]:List Int),(((),()),((false,()),())))))):=by
  intro r;induction r with
  |nil=>
   intro out _ aG;have:decide (out.length+0<=4)=true:=by simpa using aG
   simp only[im,uR,List.all_nil,List.length_nil,this,Bool.and_self,cond_true,List.map_nil,List.append_nil]
  |cons x r ih=>
   intro out hr aG;have hx:=hr x List.mem_cons_self;have anK:=afs ((x,((999:Int),())),()) (show am x.length by unfold am;omega) rfl
   have step:sb x (((),((),((),()))),(([]:List Int),(((),()),((false,()),(out,(((),()),()))))))=
     some (bif fp x&&decide (out.length+1<=4) then .inl (((),((),((),()))),(([]:List Int),(((),()),((false,()),(out++[c_ x],(((),()),())))))) else .inr (.inr (((),((),())),(([]:List Int),(((),()),((false,()),())))))):=by
    simp only[sb,anK,Option.bind_some,Ev,Bool.not_not];have ay:((out.length:Int)==4)=!decide (out.length+1<=4):=by
     by_cases h:out.length=4
     ·rw[h];rfl
     ·have bo:decide (out.length+1<=4)=true:=by simp only[decide_eq_true_eq];omega
      rw[bo];simp only[beq_eq_false_iff_ne,ne_eq,Bool.not_true];omega
    rw[ay];cases hn:fp x with
    |false=>rfl
    |true=>
     simp only[cond_true,Option.bind_some,Bool.true_and];cases au:decide (out.length+1<=4) with
     |false=>rfl
     |true=>
      simp only[Bool.not_true,cond_false,cond_true];rw[dS (by decide) (by unfold am;simp only[List.length_cons,List.length_nil];omega)]
      rfl
   rw[im,step,List.all_cons];cases hn:fp x with
   |false=>rfl
   |true=>
    simp only[Bool.true_and];cases au:decide (out.length+1<=4) with
    |false=>
     have:decide (out.length+(x::r).length<=4)=false:=by simp only[decide_eq_false_iff_not,List.length_cons] at au ⊢;omega
     rw[this];simp
    |true=>
     simp only[cond_true];rw[ih (out++[c_ x]) (fun y hy=>hr y (List.mem_cons_of_mem _ hy)) (by simp only[List.length_append,List.length_cons,List.length_nil];simpa using au)]
     have e1:(out++[c_ x]).length+r.length=out.length+(x::r).length:=by simp only[List.length_append,List.length_cons,List.length_nil];omega
     rw[e1,List.map_cons,List.append_assoc];rfl
 have key:=fold (bO (46:UInt8) s) [] (fun x hx=>xt 46 s x hx) (Nat.zero_le _)
 have IZ:im sb uR (bO (46:UInt8) s) (((),((),((),()))),(([]:List Int),(((),()),((false,()),(([]:List Int),(((),()),()))))))=
    some (bif dZ s then(.inl (((),((),((),()))),(([]:List Int),(((),()),((false,()),(hA s,(((),()),()))))))) else(.inr (((),((),())),(([]:List Int),(((),()),((false,()),())))))):=by
  rw[key];unfold dZ hA hX;simp only[List.length_nil,Nat.zero_add,List.nil_append]
 simp only[f151,Jd,cond_true,IZ,Option.bind_some];cases dZ s<;>rfl
theorem Dr(a)(hs:cv a.1.1.length):f100 a=some ((dZ a.1.1,()),()):=by
 simp only[f100,Do ((a.1.1,()),()) hs,Option.bind_some]
def dv(n:bB):Bool:=iA n.name&&(n.kind==0&&(n.aU==[])||within n.kind 1 3&&dZ n.aU)
abbrev wR(n:bB):Prop:=cv n.name.length/\cv n.aU.length
theorem Pc(a)(h1:cv a.1.1.1.length)(h2:cv a.1.1.2.2.1.length):f192 a=some ((dv ⟨a.1.1.1,a.1.1.2.1,a.1.1.2.2.1⟩,()),()):=by
 obtain⟨⟨⟨n,k,v,u⟩,b7⟩,ln⟩:=a;have h1:n.length<=2097152:=h1;have h2:v.length<=2097152:=h2;have e1:=O8 ((n,()),()) (show am n.length by unfold am;omega)
 have e2:=MW ((v,()),()) h2;simp only[f192,e1,e2,nA,Option.bind_some,dv];cases iA n with
 |false=>rfl
 |true=>
  cases hk:(k==0) with
  |false=>
   simp only[cond_true,cond_false];cases within k 1 3<;>cases dZ v<;>rfl
  |true=>
   have:within k 1 3=false:=by
    have:k=0:=by simpa using hk
    subst this;decide
   rw[this];cases (v==[])<;>rfl
theorem adn{k:Int}(lz:¬k=0)(aB:¬k=1)(aA:¬k=2)(bC:¬k=3):within k 1 3=false:=by
 unfold within;cases h:(decide (1<=k)&&decide (k<=3)) with
 |false=>rfl
 |true=>simp only[Bool.and_eq_true,decide_eq_true_eq] at h;omega
theorem xG(a)(h1:cv a.1.1.1.length)(h2:cv a.1.1.2.2.1.length):f102 a=some ((dv ⟨a.1.1.1,a.1.1.2.1,a.1.1.2.2.1⟩,()),()):=by
 obtain⟨⟨⟨n,k,v,u⟩,b7⟩,ln⟩:=a;have h1:n.length<=2097152:=h1;have h2:v.length<=2097152:=h2;have e1:=MH ((n,()),()) (show am n.length by unfold am;omega)
 have e2:=Dr ((v,()),()) h2;simp only[f102,e1,e2,Option.bind_some,dv,FA];cases iA n with
 |false=>rfl
 |true=>
  simp only[Bool.not_true,cond_false,Bool.true_and];by_cases lz:k=0
  ·subst lz;cases (v==[])<;>rfl
  ·have pb:(k==0)=false:=by simpa using lz
   rw[pb];by_cases aB:k=1
   ·subst aB;cases hv:dZ v<;>simp[within,e2,hv]
   ·have qP:(k==1)=false:=by simpa using aB
    rw[qP];by_cases aA:k=2
    ·subst aA;cases hv:dZ v<;>simp[within,e2,hv]
    ·have hk2:(k==2)=false:=by simpa using aA
     rw[hk2];by_cases bC:k=3
     ·subst bC;cases hv:dZ v<;>simp[within,e2,hv]
     ·have ar5:(k==3)=false:=by simpa using bC
      rw[ar5];rw[adn lz aB aA bC];rfl
noncomputable abbrev akS:bg:=[(102,vW)]
theorem SK:aW U (bd ah akS):=bc ⟨BN,⟨⟩⟩
abbrev xV:Shape:=⟨[(1,.ak (.fn 102 [])),aH 7 .need,ad 8,ad 9],[],18⟩
abbrev D6:List aN:=[(.ret,⟨[ar 4],[],18⟩),(.exit 0,⟨[],[],18⟩)]
noncomputable def x5(y:xV.J):bJ xV D6:=
 bif(decide (y.1.2.2.2.1<y.1.2.2.1)) then
(aP y.1.2.1 y.1.2.2.2.1).bind fun a=>
(f102 (((a.name,a.kind,a.aU,()),()),())).bind fun b=>
 bif(!b.1.1) then
 some (.inr (.inl ((false,()),())))
else
 some (.inl (((),y.1.2.1,y.1.2.2.1,(IntKind.i64.wrap (y.1.2.2.2.1+(1:Int))),()),()))
else
 some (.inr (.inr ((),())))
noncomputable def Eo:xV.J->Option (aw D6):=bn x5
theorem aeD:aT U (an (codeOf Tryz.f101) 1 26) (a6 xV D6 Eo):=bN SK (by kernel_rfl) af fun y=>by kernel_rfl
abbrev Sg:Shape:=⟨[aH 0 .need,(1,.ak (.fn 102 []))],[],18⟩
abbrev R1:Shape:=⟨[ar 4],[],18⟩
noncomputable def Bc(a:Sg.J):Option R1.J:=
(Eo (((),a.1.1,(a.1.1.length:Int),(0:Int),()),())).bind fun b=>
(match b with
|.inl c=>
 some ((c.1.1,()),())
|.inr d=>
 some ((true,()),()))
noncomputable def SF:aF:=aK ah Tryz.f101 Sg R1 [] Bc
theorem ajo:aE U 101 SF:=aL SK Tryz.func101 (by kernel_rfl) (bb aeD af) (fun y=>by kernel_rfl) fun a=>by kernel_rfl
abbrev i104:Shape:=⟨[b_ 0 [ae,br,ae]],[],5⟩
abbrev Vl:Shape:=⟨[ap 2],[],5⟩
noncomputable def f104(a:i104.J):Option Vl.J:=
 some ((a.1.1.1,()),())
noncomputable def Xb:aF:=aK ah Tryz.f104 i104 Vl [] f104
theorem am0:aE U 104 Xb:=aL g0 Tryz.func104 (by kernel_rfl) af (fun y=>by kernel_rfl) fun a=>by kernel_rfl
abbrev i149:Shape:=⟨[aH 0 .str],[],8⟩
abbrev IS:Shape:=⟨[bf 2 3000128],[be 3000128 .str 2 0],8⟩
noncomputable def f149(a:i149.J):Option IS.J:=
 pG (t:=.str) a.1.1 (some (((),()),([]:List F),())) ((cy 16 ([]:List F) a.1.1).bind fun b=>
 some (((),()),b,()))
noncomputable def JD:aF:=aK ah Tryz.f149 i149 IS [] f149
theorem TD:aE U 149 JD:=aL g0 Tryz.func149 (by kernel_rfl) af (fun y=>by kernel_rfl) fun a=>by kernel_rfl
abbrev y3:Shape:=⟨[aH 0 .str,ap 1,ad 7,ad 8],[],19⟩
abbrev rV:List aN:=[(.ret,⟨[ad 4],[],19⟩),(.exit 0,⟨[],[],19⟩)]
noncomputable def zI(y:y3.J):bJ y3 rV:=
 bif(decide (y.1.2.2.2.1<y.1.2.2.1)) then
(aP y.1.1 y.1.2.2.2.1).bind fun a=>
 bif(y.1.2.1==a) then
 some (.inr (.inl ((y.1.2.2.2.1,()),())))
else
 some (.inl ((y.1.1,y.1.2.1,y.1.2.2.1,(IntKind.i64.wrap (y.1.2.2.2.1+(1:Int))),()),()))
else
 some (.inr (.inr ((),())))
noncomputable def Gx:y3.J->Option (aw rV):=bn zI
theorem ah1:aT U (an (codeOf Tryz.f197) 1 26) (a6 y3 rV Gx):=bN g0 (by kernel_rfl) af fun y=>by kernel_rfl
abbrev i197:Shape:=⟨[aH 0 .str,ap 1],[],19⟩
abbrev IQ:Shape:=⟨[ad 4],[],19⟩
noncomputable def f197(a:i197.J):Option IQ.J:=
(Gx ((a.1.1,a.1.2.1,(a.1.1.length:Int),(0:Int),()),())).bind fun b=>
(match b with
|.inl c=>
 some ((c.1.1,()),())
|.inr d=>
 some ((((-1):Int),()),()))
noncomputable def Wn:aF:=aK ah Tryz.f197 i197 IQ [] f197
theorem amw:aE U 197 Wn:=aL g0 Tryz.func197 (by kernel_rfl) (bb ah1 af) (fun y=>by kernel_rfl) fun a=>by kernel_rfl
noncomputable abbrev ao4:bg:=[(197,Wn)]
theorem apU:aW U (bd ah ao4):=bc ⟨amw,⟨⟩⟩
abbrev i150:Shape:=⟨[aH 0 .str,ap 1],[],9⟩
abbrev UR:Shape:=⟨[ar 4],[],9⟩
noncomputable def f150(a:i150.J):Option UR.J:=
(f197 ((a.1.1,a.1.2.1,()),())).bind fun b=>
 some (((decide (b.1.1>=(0:Int))),()),())
noncomputable def JC:aF:=aK ah Tryz.f150 i150 UR [] f150
theorem TC:aE U 150 JC:=aL apU Tryz.func150 (by kernel_rfl) af (fun y=>by kernel_rfl) fun a=>by kernel_rfl
noncomputable abbrev akR:bg:=[(104,Xb),(149,JD),(150,JC)]
theorem SJ:aW U (bd ah akR):=bc ⟨am0,TD,TC,⟨⟩⟩
abbrev xU:Shape:=⟨[(1,.ak (.fn 104 [])),bf 7 3000448,aH 12 .need,ad 13,ad 14],[be 3000448 .str 7 0],30⟩
abbrev rF:List aN:=[(.ret,⟨[ar 6],[],30⟩),(.exit 0,⟨[],[],30⟩)]
noncomputable def x4(y:xU.J):bJ xU rF:=
 bif(decide (y.1.2.2.2.2.1<y.1.2.2.2.1)) then
(aP y.1.2.2.1 y.1.2.2.2.2.1).bind fun a=>
(f104 (((a.name,a.kind,a.aU,()),()),())).bind fun b=>
(f150 ((y.2.1,b.1.1,()),())).bind fun c=>
 bif c.1.1 then
 some (.inr (.inl ((true,()),())))
else
(f104 (((a.name,a.kind,a.aU,()),()),())).bind fun d=>
(cy 16 y.2.1 ([d.1.1]:List F)).bind fun e=>
 some (.inl (((),(),y.1.2.2.1,y.1.2.2.2.1,(IntKind.i64.wrap (y.1.2.2.2.2.1+(1:Int))),()),e,()))
else
 some (.inr (.inr ((),())))
noncomputable def En:xU.J->Option (aw rF):=bn x4
theorem aeC:aT U (an (codeOf Tryz.f103) 1 58) (a6 xU rF En):=bN SJ (by kernel_rfl) af fun y=>by kernel_rfl
abbrev Sf:Shape:=⟨[aH 0 .need,(1,.ak (.fn 104 [])),aH 2 .str],[],30⟩
abbrev R0:Shape:=⟨[ar 6],[],30⟩
noncomputable def Bb(a:Sf.J):Option R0.J:=
(f149 ((a.1.2.2.1,()),())).bind fun b=>
(En (((),(),a.1.1,(a.1.1.length:Int),(0:Int),()),b.2.1,())).bind fun c=>
(match c with
|.inl d=>
 some ((d.1.1,()),())
|.inr e=>
 some ((false,()),()))
noncomputable def SE:aF:=aK ah Tryz.f103 Sf R0 [] Bb
theorem ajn:aE U 103 SE:=aL SJ Tryz.func103 (by kernel_rfl) (bb aeC af) (fun y=>by kernel_rfl) fun a=>by kernel_rfl
noncomputable abbrev ao9:bg:=[(192,Jy)]
theorem Xo:aW U (bd ah ao9):=bc ⟨Tz,⟨⟩⟩
abbrev ze:Shape:=⟨[aH 0 .need,ad 3],[],19⟩
abbrev F7:List aN:=[(.ret,⟨[ar 2],[],19⟩),(.exit 0,⟨[aH 0 .need],[],19⟩)]
noncomputable def zT(y:ze.J):bJ ze F7:=
 bif(decide (y.1.2.1<(y.1.1.length:Int))) then
(aP y.1.1 y.1.2.1).bind fun a=>
(f192 (((a.name,a.kind,a.aU,()),()),())).bind fun b=>
 bif(!b.1.1) then
 some (.inr (.inl ((false,()),())))
else
 some (.inl ((y.1.1,(IntKind.i64.wrap (y.1.2.1+(1:Int))),()),()))
else
 some (.inr (.inr ((y.1.1,()),())))
noncomputable def GI:ze.J->Option (aw F7):=bn zT
theorem aik:aT U (an (codeOf Tryz.f141) 1 26) (a6 ze F7 GI):=bN Xo (by kernel_rfl) af fun y=>by kernel_rfl
abbrev i141:Shape:=⟨[aH 0 .need],[],19⟩
abbrev UZ:Shape:=⟨[ar 2],[],19⟩
noncomputable def f141(a:i141.J):Option UZ.J:=
(GI ((a.1.1,(0:Int),()),())).bind fun b=>
(match b with
|.inl c=>
 some ((c.1.1,()),())
|.inr d=>
 some (((decide ((d.1.1.length:Int)<=(6:Int))),()),()))
noncomputable def WS:aF:=aK ah Tryz.f141 i141 UZ [] f141
theorem z141:aE U 141 WS:=aL Xo Tryz.func141 (by kernel_rfl) (bb aik af) (fun y=>by kernel_rfl) fun a=>by kernel_rfl
abbrev xP:Shape:=⟨[aH 0 .str,ad 3,ad 4],[],25⟩
abbrev D1:List aN:=[(.ret,⟨[ar 2],[],25⟩),(.exit 2,⟨[aH 0 .str,ad 3],[],25⟩)]
noncomputable def x0(y:xP.J):bJ xP D1:=
 bif(decide (y.1.2.2.1<y.1.2.1)) then
(aP y.1.1 y.1.2.2.1).bind fun a=>
(aP y.1.1 y.1.2.1).bind fun b=>
 bif(a==b) then
 some (.inr (.inl ((true,()),())))
else
 some (.inl ((y.1.1,y.1.2.1,(IntKind.i64.wrap (y.1.2.2.1+(1:Int))),()),()))
else
 some (.inr (.inr ((y.1.1,y.1.2.1,()),())))
noncomputable def Ei:xP.J->Option (aw D1):=bn x0
theorem aet:aT U (an (c8 (an (codeOf Tryz.f142) 1 26)) 52 1682) (a6 xP D1 Ei):=bN g0 (by kernel_rfl) af fun y=>by kernel_rfl
abbrev zd:Shape:=⟨[aH 0 .str,ad 3],[],25⟩
abbrev F6:List aN:=[(.ret,⟨[ar 2],[],25⟩),(.exit 0,⟨[],[],25⟩)]
noncomputable def zS(y:zd.J):bJ zd F6:=
 bif(decide (y.1.2.1<(y.1.1.length:Int))) then
(Ei ((y.1.1,y.1.2.1,(0:Int),()),())).bind fun a=>
(match a with
|.inl b=>
 some (.inr (.inl ((b.1.1,()),())))
|.inr c=>
 some (.inl ((c.1.1,(IntKind.i64.wrap (c.1.2.1+(1:Int))),()),())))
else
 some (.inr (.inr ((),())))
noncomputable def GH:zd.J->Option (aw F6):=bn zS
theorem aij:aT U (an (codeOf Tryz.f142) 1 26) (a6 zd F6 GH):=bN g0 (by kernel_rfl) (bb aet af) fun y=>by kernel_rfl
abbrev i142:Shape:=⟨[aH 0 .str],[],25⟩
abbrev UY:Shape:=⟨[ar 2],[],25⟩
noncomputable def f142(a:i142.J):Option UY.J:=
(GH ((a.1.1,(0:Int),()),())).bind fun b=>
(match b with
|.inl c=>
 some ((c.1.1,()),())
|.inr d=>
 some ((false,()),()))
noncomputable def WR:aF:=aK ah Tryz.f142 i142 UY [] f142
theorem amO:aE U 142 WR:=aL g0 Tryz.func142 (by kernel_rfl) (bb aij af) (fun y=>by kernel_rfl) fun a=>by kernel_rfl
noncomputable abbrev ato:bg:=[(141,WS),(142,WR)]
theorem Z_:aW U (bd ah ato):=bc ⟨z141,amO,⟨⟩⟩
abbrev Au:Shape:=⟨[aH 1 .need,bf 5 3000320,ad 6],[be 3000320 .str 5 0],30⟩
abbrev Am:List aN:=[(.exit 0,⟨[aH 1 .need,bf 5 3000320],[be 3000320 .str 5 0],30⟩)]
noncomputable def AW(y:Au.J):bJ Au Am:=
 bif(decide (y.1.2.2.1<(y.1.1.length:Int))) then
(aP y.1.1 y.1.2.2.1).bind fun a=>
(cy 16 y.2.1 ([a.name]:List F)).bind fun b=>
 some (.inl ((y.1.1,(),(IntKind.i64.wrap (y.1.2.2.1+(1:Int))),()),b,()))
else
 some (.inr ((y.1.1,(),()),y.2.1,()))
noncomputable def HT:Au.J->Option (aw Am):=bn AW
theorem ajO:aT U (an (codeOf Tryz.f89) 1 58) (a6 Au Am HT):=bN Z_ (by kernel_rfl) af fun y=>by kernel_rfl
abbrev i89:Shape:=⟨[ap 0,aH 1 .need],[],30⟩
abbrev X1:Shape:=⟨[ar 4],[],30⟩
noncomputable def f89(a:i89.J):Option X1.J:=
(HT ((a.1.2.1,(),(0:Int),()),([a.1.1]:List F),())).bind fun b=>
(f141 ((b.1.1,()),())).bind fun c=>
 bif c.1.1 then
(f142 ((b.2.1,()),())).bind fun d=>
 some (((!d.1.1),()),())
else
 some ((false,()),())
noncomputable def Zz:aF:=aK ah Tryz.f89 i89 X1 [] f89
theorem aqa:aE U 89 Zz:=aL Z_ Tryz.func89 (by kernel_rfl) (bb ajO af) (fun y=>by kernel_rfl) fun a=>by kernel_rfl
abbrev tc(ns:List bB):Prop:=cv ns.length/\∀n,n∈ns->wR n
theorem BT(n:Nat)(k:Nat):decide ((n:Int)<=(k:Int))=decide (n<=k):=by by_cases h:n<=k<;>simp[h]<;>omega
theorem adA(a)(hs:tc a.1.1):f141 a=some ((a.1.1.all dv&&decide (a.1.1.length<=6),()),()):=by
 obtain⟨⟨ns,u⟩,b7⟩:=a;obtain⟨hl,hn⟩:=hs;have hl:ns.length<=2097152:=hl;have key:GI ((ns,((0:Int),())),())=some (bif allI (fun _ n=>dv n) 0 ns then .inr ((ns,()),()) else .inl ((false,()),())):=by
  refine fl zT ns (fun i=>((ns,((i:Int),())),())) _ _ _ (fun i x hx=>?_) ?_
  ·have hi:=ct hx;have hw:am i:=by unfold am;omega
   have hb:=hn x (List.mem_of_getElem? hx);simp only[zT,bZ hi,cond_true,bQ,hx,Option.bind_some];rw[Pc _ hb.1 hb.2];simp only[Option.bind_some,bK hw];cases dv x<;>rfl
  ·simp only[zT,cX,cond_false]
 rw[fX] at key;simp only[f141,key,Option.bind_some];cases List.all ns dv with
 |false=>rfl
 |true=>have:=BT ns.length 6;simp only[cond_true,Bool.true_and];rw[<-this];rfl
theorem adN(a)(hs:tc a.1.1):Bc a=some ((a.1.1.all dv,()),()):=by
 obtain⟨⟨ns,u⟩,b7⟩:=a;obtain⟨hl,hn⟩:=hs;have hl:ns.length<=2097152:=hl;have key:Eo (((),(ns,((ns.length:Int),((0:Int),())))),())=some (bif allI (fun _ n=>dv n) 0 ns then .inr ((),()) else .inl ((false,()),())):=by
  refine fl x5 ns (fun i=>(((),(ns,((ns.length:Int),((i:Int),())))),())) _ _ _ (fun i x hx=>?_) ?_
  ·have hi:=ct hx;have hw:am i:=by unfold am;omega
   have hb:=hn x (List.mem_of_getElem? hx);simp only[x5,bZ hi,cond_true,bQ,hx,Option.bind_some];rw[xG _ hb.1 hb.2];simp only[Option.bind_some,bK hw];cases dv x<;>rfl
  ·simp only[x5,cX,cond_false]
 rw[fX] at key;simp only[Bc,key,Option.bind_some];cases List.all ns dv<;>rfl
def gQ:List F->List F->Bool
 |_,[]=>false
 |acc,x::r=>acc.contains x||gQ (acc++[x]) r
theorem PX(xs:List F):∀(r:List F) (k:Nat),r=xs.drop k->allI (fun i x=>!((xs.take i).contains x)) k r=!gQ (xs.take k) r:=by
 intro r;induction r with
 |nil=>intro k _;rfl
 |cons x r ih=>
  intro k hr;have dp:r=xs.drop (k+1):=by
   have:=congrArg List.tail hr;simpa using this
  have hx:xs[k]? =some x:=by
   have:=congrArg (fun l=>l[0]?) hr
   simpa using this.symm
  have e1:xs.take (k+1)=xs.take k++[x]:=by rw[List.take_add_one,hx];rfl
  simp only[allI,gQ,ih (k+1) dp,e1,Bool.not_or]
theorem ajb(bh:List F)(x:F):bh.all (fun y=>!(y==x))=!bh.contains x:=by
 induction bh with
 |nil=>rfl
 |cons y bh ih=>
  simp only[List.all_cons,ih,List.contains_cons,Bool.not_or];congr 2
  cases h:y==x with
  |true=>rw[eq_of_beq h];simp
  |false=>
   cases h2:x==y with
   |true=>rw[eq_of_beq h2] at h;simp at h
   |false=>rfl
theorem adz(a)(hs:cv a.1.1.length):f142 a=some ((gQ [] a.1.1,()),()):=by
 obtain⟨⟨xs,u⟩,b7⟩:=a;have hs:xs.length<=2097152:=hs;have inner:∀(i:Nat) (x:F),xs[i]? =some x->Ei ((xs,((i:Int),((0:Int),()))),())=some (bif !((xs.take i).contains x) then .inr ((xs,((i:Int),())),()) else .inl ((true,()),())):=by
  intro i x hx;have hi:=ct hx;have hl:(xs.take i).length=i:=by rw[List.length_take];omega
  have:=fl x0 (xs.take i) (fun k=>((xs,((i:Int),((k:Int),()))),())) (fun _ y=>!(y==x)) (.inl ((true,()),())) (.inr ((xs,((i:Int),())),())) (fun k y hy=>?_) ?_
  ·have:=this;rw[fX,ajb] at this;exact this
  ·have hk:=ct hy;rw[hl] at hk;have hw:am k:=by unfold am;omega
   have dW:xs[k]? =some y:=by
    rw[List.getElem?_take,if_pos hk] at hy;exact hy
   simp only[x0,bZ hk,cond_true,bQ,dW,hx,Option.bind_some,bK hw];cases (y==x)<;>rfl
  ·simp only[x0,hl,cX,cond_false]
 have key:GH ((xs,((0:Int),())),())=some (bif allI (fun i x=>!((xs.take i).contains x)) 0 xs then .inr ((),()) else .inl ((true,()),())):=by
  refine fl zS xs (fun i=>((xs,((i:Int),())),())) _ _ _ (fun i x hx=>?_) ?_
  ·have hi:=ct hx;have hw:am i:=by unfold am;omega
   simp only[zS,bZ hi,cond_true,inner i x hx,Option.bind_some];cases (xs.take i).contains x
   ·simp only[Bool.not_false,cond_true,bK hw]
   ·rfl
  ·simp only[zS,cX,cond_false]
 rw[PX xs xs 0 rfl] at key;simp only[f142,key,Option.bind_some,List.take_zero];cases gQ [] xs<;>rfl
def pW(name:F)(ns:List bB):Bool:=ns.all dv&&decide (ns.length<=6)&&!gQ [] (name::ns.map (·.name))
theorem ady(a)(hs:tc a.1.2.1)(hn:cv a.1.1.length):f89 a=some ((pW a.1.1 a.1.2.1,()),()):=by
 obtain⟨⟨name,ns,u⟩,b7⟩:=a;have hl:ns.length<=2097152:=hs.1;have key:HT ((ns,((),((0:Int),()))),(([name]:List F),()))=some (((ns,((),())),((name::ns.map (·.name)),()))):=by
  have:=aeQ AW ns (fun i (out:List F)=>((ns,((),((i:Int),()))),(out,()))) (fun(n:bB) out=>out++[n.name]) (fun out=>(((ns,((),())),(out,())):aw Am)) (fun i out=>out.length=i+1) [name] rfl (fun i x out hx dk=>?_) (fun out _=>?_)
  ·refine this.trans ?_
   have e:∀(r:List bB) (out:List F),r.foldl (fun s x=>s++[x.name]) out=out++r.map (·.name):=by
    intro r;induction r with
    |nil=>intro out;simp
    |cons n r ih=>intro out;simp[ih]
   rw[e];rfl
  ·have hi:=ct hx;have hw:am i:=by unfold am;omega
   refine⟨?_,by simp[dk]⟩
   simp only[AW,bZ hi,cond_true,bQ,hx,Option.bind_some];rw[dS (by decide) (by unfold am;simp only[List.length_cons,List.length_nil];omega)]
   simp only[Option.bind_some,bK hw]
  ·simp only[AW,cX,cond_false]
 simp only[f89,key,Option.bind_some];rw[adA _ hs];simp only[Option.bind_some];unfold pW;cases au:(List.all ns dv&&decide (ns.length<=6)) with
 |false=>rfl
 |true=>
  simp only[Bool.and_eq_true,decide_eq_true_eq] at au;have auQ:=adz ((name::ns.map (·.name),()),()) (show(name::ns.map (·.name)).length<=2097152 by simp only[List.length_cons,List.length_map];omega)
  simp only[cond_true,Bool.true_and,auQ,Option.bind_some]
theorem ahv(a)(hs:cv a.1.1.length):∃n:Int,f197 a=some ((n,()),())/\decide (n>=0)=a.1.1.contains a.1.2.1:=by
 obtain⟨⟨xs,x,u⟩,b7⟩:=a;have hs:xs.length<=2097152:=hs;have key:Gx ((xs,(x,((xs.length:Int),((0:Int),())))),())=_:=Ee zI xs (fun i (_:Unit)=>((xs,(x,((xs.length:Int),((i:Int),())))),()))
  (fun i y _=>some (bif x==y then .inr ((.inl (((i:Int),()),())):aw rV) else .inl ())) (fun _=>.inr ((),())) (fun i y s hy=>?_) (fun s=>?_) ()
 ·have fold:∀(r:List F) (k:Nat),∃n:Int,(eA (fun i y (_:Unit)=>some (bif x==y then .inr ((.inl (((i:Int),()),())):aw rV) else .inl ())) (fun _=>(.inr ((),()):aw rV)) k r ()).bind (fun anq=>
    (match anq with
    |.inl anp=>some ((anp.1.1,()),())
    |.inr av4=>some ((((-1):Int),()),()):Option IQ.J))=some ((n,()),())/\decide (n>=0)=r.contains x:=by
   intro r;induction r with
   |nil=>intro k;exact⟨-1,rfl,rfl⟩
   |cons y r ih=>
    intro k;simp only[eA,List.contains_cons];cases hxy:x==y with
    |true=>exact⟨k,rfl,by simp⟩
    |false=>
     obtain⟨n,h1,h2⟩:=ih (k+1);exact⟨n,h1,by simpa using h2⟩
  obtain⟨n,h1,h2⟩:=fold xs 0;refine⟨n,?_,h2⟩;simp only[f197];rw[key];exact h1
 ·have hi:=ct hy;have hw:am i:=by unfold am;omega
  simp only[zI,bZ hi,cond_true,bQ,hy,Option.bind_some,bK hw];cases x==y<;>rfl
 ·simp only[zI,cX,cond_false]
theorem Nt(a)(hs:cv a.1.1.length):f150 a=some ((a.1.1.contains a.1.2.1,()),()):=by
 obtain⟨n,h1,h2⟩:=ahv ((a.1.1,(a.1.2.1,())),()) hs;simp only[f150,h1,Option.bind_some,h2]
theorem Pd(a)(hs:cv a.1.1.length):f149 a=some (((),()),(a.1.1,())):=by
 obtain⟨⟨xs,u⟩,b7⟩:=a;have hs:xs.length<=2097152:=hs;have h2:(cy 16 ([]:List F) xs).bind (fun x=>some (((),()),(x,())))=(some (((),()),(xs,())):Option IS.J):=by
  rw[dS (by decide) (by unfold am;simp only[List.length_nil];omega)];rfl
 simp only[f149];rw[h2];unfold pG;split
 ·rfl
 ·rename_i h;exact absurd (fun he:xs=[]=>by subst he;rfl) h
theorem aaM(a)(hs:tc a.1.1)(hm:a.1.2.2.1.length<=1):Bb a=some ((gQ a.1.2.2.1 (a.1.1.map (·.name)),()),()):=by
 obtain⟨⟨ns,_y,more,u⟩,b7⟩:=a;have hl:ns.length<=2097152:=hs.1;have hm:more.length<=1:=hm;have hc:=Pd ((more,()),()) (show more.length<=2097152 by omega)
 have key:(En (((),((),(ns,((ns.length:Int),((0:Int),()))))),(more,())))=_:=k1 x4 ns (fun i (out:List F)=>(((),((),(ns,((ns.length:Int),((i:Int),()))))),(out,())))
  (fun i (n:bB) out=>some (bif out.contains n.name then .inr ((.inl ((true,()),())):aw rF) else .inl (out++[n.name]))) (fun _=>.inr ((),())) (fun i out=>out.length<=i+1) more (by omega) (fun i x out hx dk=>?_) (fun out _=>?_)
 ·have fold:∀(r:List bB) (k:Nat) (out:List F),(eA (fun i (n:bB) out=>some (bif out.contains n.name then .inr ((.inl ((true,()),())):aw rF) else .inl (out++[n.name]))) (fun _=>(.inr ((),()):aw rF)) k r out)=
    some (bif gQ out (r.map (·.name)) then .inl ((true,()),()) else .inr ((),())):=by
   intro r;induction r with
   |nil=>intro k out;rfl
   |cons n r ih=>
    intro k out;simp only[eA,List.map_cons,gQ];cases out.contains n.name with
    |true=>rfl
    |false=>simp only[cond_false,Bool.false_or];exact ih _ _
  rw[fold] at key;simp only[Bb,hc,Option.bind_some,key];cases gQ more (ns.map (·.name))<;>rfl
 ·have hi:=ct hx;have hw:am i:=by unfold am;omega
  refine⟨?_,fun aD ai=>?_⟩
  ·simp only[x4,bZ hi,cond_true,bQ,hx,Option.bind_some,f104];rw[Nt _ (show cv out.length by show out.length<=2097152;omega)]
   simp only[Option.bind_some];cases au:out.contains x.name with
   |true=>rfl
   |false=>
    simp only[cond_false];rw[dS (by decide) (by unfold am;simp only[List.length_cons,List.length_nil];omega)]
    simp only[Option.bind_some,bK hw,Option.map_some]
  ·simp only[Option.some.injEq] at ai;cases au:out.contains x.name with
   |true=>rw[au] at ai;cases ai
   |false=>
    rw[au] at ai;simp only[cond_false,Sum.inl.injEq] at ai;subst ai;simp only[List.length_append,List.length_cons,List.length_nil];omega
 ·simp only[x4,cX,cond_false]
abbrev i146:Shape:=⟨[(0,.ak (.d (.int .u8)))],[],29⟩
abbrev UU:Shape:=⟨[ar 2],[],29⟩
noncomputable def f146(a:i146.J):Option UU.J:=
 bif(decide (a.1.1>=(97:Int))) then
 bif(!(decide (a.1.1<=(122:Int)))) then
 bif(decide (a.1.1>=(48:Int))) then
 bif(!(decide (a.1.1<=(57:Int)))) then
 bif(!(a.1.1==(46:Int))) then
 bif(!(a.1.1==(95:Int))) then
 some (((a.1.1==(45:Int)),()),())
else
 some ((true,()),())
else
 some ((true,()),())
else
 some ((true,()),())
else
 bif(!(a.1.1==(46:Int))) then
 bif(!(a.1.1==(95:Int))) then
 some (((a.1.1==(45:Int)),()),())
else
 some ((true,()),())
else
 some ((true,()),())
else
 some ((true,()),())
else
 bif(decide (a.1.1>=(48:Int))) then
 bif(!(decide (a.1.1<=(57:Int)))) then
 bif(!(a.1.1==(46:Int))) then
 bif(!(a.1.1==(95:Int))) then
 some (((a.1.1==(45:Int)),()),())
else
 some ((true,()),())
else
 some ((true,()),())
else
 some ((true,()),())
else
 bif(!(a.1.1==(46:Int))) then
 bif(!(a.1.1==(95:Int))) then
 some (((a.1.1==(45:Int)),()),())
else
 some ((true,()),())
else
 some ((true,()),())
noncomputable def WN:aF:=aK ah Tryz.f146 i146 UU [] f146
theorem z146:aE U 146 WN:=aL g0 Tryz.func146 (by kernel_rfl) af (fun y=>by kernel_rfl) fun a=>by kernel_rfl
noncomputable abbrev atm:bg:=[(75,oa),(146,WN)]
theorem Z9:aW U (bd ah atm):=bc ⟨z75,z146,⟨⟩⟩
abbrev Ar:Shape:=⟨[ap 0,ad 3],[],26⟩
abbrev Ho:List aN:=[(.ret,⟨[ar 2],[],26⟩),(.exit 0,⟨[ap 0],[],26⟩)]
noncomputable def AT(y:Ar.J):bJ Ar Ho:=
 bif(decide (y.1.2.1<(y.1.1.length:Int))) then
(aP y.1.1 y.1.2.1).bind fun a=>
(f146 (((a.toNat:Int),()),())).bind fun b=>
 bif(!b.1.1) then
 some (.inr (.inl ((false,()),())))
else
 some (.inl ((y.1.1,(IntKind.i64.wrap (y.1.2.1+(1:Int))),()),()))
else
 some (.inr (.inr ((y.1.1,()),())))
noncomputable def HQ:Ar.J->Option (aw Ho):=bn AT
theorem ajL:aT U (an (codeOf Tryz.f91) 1 26) (a6 Ar Ho HQ):=bN Z9 (by kernel_rfl) af fun y=>by kernel_rfl
abbrev i91:Shape:=⟨[ap 0],[],26⟩
abbrev XZ:Shape:=⟨[ar 2],[],26⟩
noncomputable def f91(a:i91.J):Option XZ.J:=
(HQ ((a.1.1,(0:Int),()),())).bind fun b=>
(match b with
|.inl c=>
 some ((c.1.1,()),())
|.inr d=>
(f75 (((d.1.1.length:Int),(1:Int),(10:Int),()),())).bind fun e=>
 bif e.1.1 then
 bif(!(d.1.1==([46]:F))) then
 some (((!(d.1.1==([46,46]:F))),()),())
else
 some ((false,()),())
else
 some ((false,()),()))
noncomputable def Ll:aF:=aK ah Tryz.f91 i91 XZ [] f91
theorem z91:aE U 91 Ll:=aL Z9 Tryz.func91 (by kernel_rfl) (bb ajL af) (fun y=>by kernel_rfl) fun a=>by kernel_rfl
noncomputable abbrev aoK:bg:=[(73,tL),(91,Ll)]
theorem Xi:aW U (bd ah aoK):=bc ⟨v7,z91,⟨⟩⟩
abbrev y6:Shape:=⟨[bf 3 3000192,ad 4],[be 3000192 .str 3 0],25⟩
abbrev FY:List aN:=[(.ret,⟨[ar 2],[],25⟩),(.exit 0,⟨[bf 3 3000192],[be 3000192 .str 3 0],25⟩)]
noncomputable def zL(y:y6.J):bJ y6 FY:=
 bif(decide (y.1.2.1<(y.2.1.length:Int))) then
(a_ y.2.1.length y.1.2.1).bind fun a=>
(y.2.1[a]?).bind fun b=>
(f91 ((b,()),())).bind fun c=>
 bif(!c.1.1) then
 some (.inr (.inl ((false,()),())))
else
 some (.inl (((),(IntKind.i64.wrap (y.1.2.1+(1:Int))),()),y.2.1,()))
else
 some (.inr (.inr (((),()),y.2.1,())))
noncomputable def GA:y6.J->Option (aw FY):=bn zL
theorem ah4:aT U (an (codeOf Tryz.f193) 1 58) (a6 y6 FY GA):=bN Xi (by kernel_rfl) af fun y=>by kernel_rfl
abbrev i193:Shape:=⟨[ap 0],[],25⟩
abbrev Us:Shape:=⟨[ar 2],[],25⟩
noncomputable def f193(a:i193.J):Option Us.J:=
(f73 ((a.1.1,(47:Int),(IntKind.i64.wrap ((a.1.1.length:Int)+(1:Int))),()),())).bind fun b=>
(GA (((),(0:Int),()),b.2.1,())).bind fun c=>
(match c with
|.inl d=>
 some ((d.1.1,()),())
|.inr e=>
 some (((decide ((e.2.1.length:Int)<=(5:Int))),()),()))
noncomputable def Wq:aF:=aK ah Tryz.f193 i193 Us [] f193
theorem z193:aE U 193 Wq:=aL Xi Tryz.func193 (by kernel_rfl) (bb ah4 af) (fun y=>by kernel_rfl) fun a=>by kernel_rfl
noncomputable abbrev atl:bg:=[(75,oa)]
theorem Lw:aW U (bd ah atl):=bc ⟨z75,⟨⟩⟩
abbrev Qw:Shape:=⟨[ap 0,ad 3],[],25⟩
abbrev Qc:List aN:=[(.norm,⟨[ap 0,ad 3,ar 21],[],25⟩)]
noncomputable def GY(y:Qw.J):Option (aw Qc):=
(aP y.1.1 y.1.2.1).bind fun a=>
 bif((a.toNat:Int) !=(10:Int)) then
(aP y.1.1 y.1.2.1).bind fun b=>
(f75 (((IntKind.i64.wrap (b.toNat:Int)),(32:Int),(126:Int),()),())).bind fun c=>
 some ((y.1.1,y.1.2.1,(!c.1.1),()),())
else
 some ((y.1.1,y.1.2.1,false,()),())
theorem ahD:aT U (an (c8 (an (codeOf Tryz.f92) 1 26)) 52 840) (a6 Qw Qc GY):=cQ Lw (by kernel_rfl) af fun y=>by kernel_rfl
abbrev Aq:Shape:=⟨[ap 0,ad 3],[],25⟩
abbrev Hn:List aN:=[(.ret,⟨[ar 2],[],25⟩),(.exit 0,⟨[ap 0],[],25⟩)]
noncomputable def AS(y:Aq.J):bJ Aq Hn:=
 bif(decide (y.1.2.1<(y.1.1.length:Int))) then
(GY ((y.1.1,y.1.2.1,()),())).bind fun a=>
 bif a.1.2.2.1 then
 some (.inr (.inl ((false,()),())))
else
 some (.inl ((a.1.1,(IntKind.i64.wrap (a.1.2.1+(1:Int))),()),()))
else
 some (.inr (.inr ((y.1.1,()),())))
noncomputable def HP:Aq.J->Option (aw Hn):=bn AS
theorem ajK:aT U (an (codeOf Tryz.f92) 1 26) (a6 Aq Hn HP):=bN Lw (by kernel_rfl) (bb ahD af) fun y=>by kernel_rfl
abbrev i92:Shape:=⟨[ap 0],[],25⟩
abbrev XY:Shape:=⟨[ar 2],[],25⟩
noncomputable def f92(a:i92.J):Option XY.J:=
(HP ((a.1.1,(0:Int),()),())).bind fun b=>
(match b with
|.inl c=>
 some ((c.1.1,()),())
|.inr d=>
 some (((decide ((d.1.1.length:Int)<=(80:Int))),()),()))
noncomputable def Lk:aF:=aK ah Tryz.f92 i92 XY [] f92
theorem XF:aE U 92 Lk:=aL Lw Tryz.func92 (by kernel_rfl) (bb ajK af) (fun y=>by kernel_rfl) fun a=>by kernel_rfl
noncomputable abbrev ao8:bg:=[(75,oa),(92,Lk),(193,Wq)]
theorem apX:aW U (bd ah ao8):=bc ⟨z75,XF,z193,⟨⟩⟩
abbrev i143:Shape:=⟨[b_ 0 [ae,br,br,ae]],[],42⟩
abbrev UX:Shape:=⟨[ar 2],[],42⟩
noncomputable def f143(a:i143.J):Option UX.J:=
(f193 ((a.1.1.1,()),())).bind fun b=>
 bif(!b.1.1) then
 some ((false,()),())
else
 bif(a.1.1.2.1==(1:Int)) then
(f75 ((a.1.1.2.2.1,(0:Int),(7:Int),()),())).bind fun c=>
 bif c.1.1 then
 some (((a.1.1.2.2.2.1==([]:F)),()),())
else
 some ((false,()),())
else
 bif(a.1.1.2.1==(2:Int)) then
(f75 ((a.1.1.2.2.1,(0:Int),(7:Int),()),())).bind fun d=>
 bif d.1.1 then
(f92 ((a.1.1.2.2.2.1,()),())).bind fun e=>
 some ((e.1.1,()),())
else
 some ((false,()),())
else
 bif(a.1.1.2.1==(3:Int)) then
 bif(a.1.1.2.2.1==(0:Int)) then
(f193 ((a.1.1.2.2.2.1,()),())).bind fun f=>
 some ((f.1.1,()),())
else
 some ((false,()),())
else
 some ((false,()),())
noncomputable def WQ:aF:=aK ah Tryz.f143 i143 UX [] f143
theorem z143:aE U 143 WQ:=aL apX Tryz.func143 (by kernel_rfl) af (fun y=>by kernel_rfl) fun a=>by kernel_rfl
abbrev i231:Shape:=⟨[(0,.ak (.d (.int .u8)))],[],29⟩
abbrev T8:Shape:=⟨[ar 2],[],29⟩
noncomputable def f231(a:i231.J):Option T8.J:=
 bif(decide (a.1.1>=(97:Int))) then
 bif(!(decide (a.1.1<=(122:Int)))) then
 bif(decide (a.1.1>=(48:Int))) then
 bif(!(decide (a.1.1<=(57:Int)))) then
 bif(!(a.1.1==(46:Int))) then
 bif(!(a.1.1==(95:Int))) then
 some (((a.1.1==(45:Int)),()),())
else
 some ((true,()),())
else
 some ((true,()),())
else
 some ((true,()),())
else
 bif(!(a.1.1==(46:Int))) then
 bif(!(a.1.1==(95:Int))) then
 some (((a.1.1==(45:Int)),()),())
else
 some ((true,()),())
else
 some ((true,()),())
else
 some ((true,()),())
else
 bif(decide (a.1.1>=(48:Int))) then
 bif(!(decide (a.1.1<=(57:Int)))) then
 bif(!(a.1.1==(46:Int))) then
 bif(!(a.1.1==(95:Int))) then
 some (((a.1.1==(45:Int)),()),())
else
 some ((true,()),())
else
 some ((true,()),())
else
 some ((true,()),())
else
 bif(!(a.1.1==(46:Int))) then
 bif(!(a.1.1==(95:Int))) then
 some (((a.1.1==(45:Int)),()),())
else
 some ((true,()),())
else
 some ((true,()),())
noncomputable def V':aF:=aK ah Tryz.f231 i231 T8 [] f231
theorem amm:aE U 231 V':=aL g0 Tryz.func231 (by kernel_rfl) af (fun y=>by kernel_rfl) fun a=>by kernel_rfl
noncomputable abbrev aoJ:bg:=[(231,V')]
theorem Xh:aW U (bd ah aoJ):=bc ⟨amm,⟨⟩⟩
abbrev y4:Shape:=⟨[ap 0,ad 5,ad 6],[],17⟩
abbrev FX:List aN:=[(.ret,⟨[ar 2],[],17⟩),(.exit 0,⟨[ap 0],[],17⟩)]
noncomputable def zJ(y:y4.J):bJ y4 FX:=
 bif(decide (y.1.2.2.1<y.1.2.1)) then
(aP y.1.1 y.1.2.2.1).bind fun a=>
(f231 (((a.toNat:Int),()),())).bind fun b=>
 bif(!b.1.1) then
 some (.inr (.inl ((false,()),())))
else
 some (.inl ((y.1.1,y.1.2.1,(IntKind.i64.wrap (y.1.2.2.1+(1:Int))),()),()))
else
 some (.inr (.inr ((y.1.1,()),())))
noncomputable def Gy:y4.J->Option (aw FX):=bn zJ
theorem ah2:aT U (an (codeOf Tryz.f195) 1 26) (a6 y4 FX Gy):=bN Xh (by kernel_rfl) af fun y=>by kernel_rfl
abbrev i195:Shape:=⟨[ap 0],[],17⟩
abbrev Uq:Shape:=⟨[ar 2],[],17⟩
noncomputable def f195(a:i195.J):Option Uq.J:=
(Gy ((a.1.1,(a.1.1.length:Int),(0:Int),()),())).bind fun b=>
(match b with
|.inl c=>
 some ((c.1.1,()),())
|.inr d=>
 some (((!(d.1.1==([]:F))),()),()))
noncomputable def Wp:aF:=aK ah Tryz.f195 i195 Uq [] f195
theorem amx:aE U 195 Wp:=aL Xh Tryz.func195 (by kernel_rfl) (bb ah2 af) (fun y=>by kernel_rfl) fun a=>by kernel_rfl
noncomputable abbrev ao6:bg:=[(195,Wp)]
theorem apV:aW U (bd ah ao6):=bc ⟨amx,⟨⟩⟩
abbrev i147:Shape:=⟨[ap 0],[],18⟩
abbrev UT:Shape:=⟨[ar 2],[],18⟩
noncomputable def f147(a:i147.J):Option UT.J:=
 bif(decide ((a.1.1.length:Int)<=(10:Int))) then
 bif(!(a.1.1==([46]:F))) then
 bif(!(a.1.1==([46,46]:F))) then
(f195 ((a.1.1,()),())).bind fun b=>
 some ((b.1.1,()),())
else
 some ((false,()),())
else
 some ((false,()),())
else
 some ((false,()),())
noncomputable def JF:aF:=aK ah Tryz.f147 i147 UT [] f147
theorem TE:aE U 147 JF:=aL apV Tryz.func147 (by kernel_rfl) af (fun y=>by kernel_rfl) fun a=>by kernel_rfl
abbrev i196:Shape:=⟨[(0,.ak (.d (.int .u8)))],[],9⟩
abbrev Up:Shape:=⟨[ar 2],[],9⟩
noncomputable def f196(a:i196.J):Option Up.J:=
 bif(decide (a.1.1>=(32:Int))) then
 some (((decide (a.1.1<=(126:Int))),()),())
else
 some ((false,()),())
noncomputable def Wo:aF:=aK ah Tryz.f196 i196 Up [] f196
theorem z196:aE U 196 Wo:=aL g0 Tryz.func196 (by kernel_rfl) af (fun y=>by kernel_rfl) fun a=>by kernel_rfl
noncomputable abbrev ao5:bg:=[(196,Wo)]
theorem JS:aW U (bd ah ao5):=bc ⟨z196,⟨⟩⟩
abbrev Ot:Shape:=⟨[ap 0,ad 3,ad 8,ad 9],[],24⟩
abbrev N_:List aN:=[(.norm,⟨[ap 0,ad 8,ad 9,ar 22],[],24⟩)]
noncomputable def Ew(y:Ot.J):Option (aw N_):=
(aP y.1.1 y.1.2.1).bind fun a=>
(f196 (((a.toNat:Int),()),())).bind fun b=>
 bif(!b.1.1) then
(aP y.1.1 y.1.2.1).bind fun c=>
 some ((y.1.1,y.1.2.2.1,y.1.2.2.2.1,((c.toNat:Int) !=(10:Int)),()),())
else
 some ((y.1.1,y.1.2.2.1,y.1.2.2.2.1,false,()),())
theorem aes:aT U (an (c8 (an (codeOf Tryz.f148) 1 58)) 116 7474) (a6 Ot N_ Ew):=cQ JS (by kernel_rfl) af fun y=>by kernel_rfl
abbrev zb:Shape:=⟨[ap 0,ad 8,ad 9],[],24⟩
abbrev F4:List aN:=[(.ret,⟨[ar 2],[],24⟩),(.exit 0,⟨[],[],24⟩)]
noncomputable def zR(y:zb.J):bJ zb F4:=
 bif(decide (y.1.2.2.1<y.1.2.1)) then
(Ew ((y.1.1,y.1.2.2.1,y.1.2.1,y.1.2.2.1,()),())).bind fun a=>
 bif a.1.2.2.2.1 then
 some (.inr (.inl ((false,()),())))
else
 some (.inl ((a.1.1,a.1.2.1,(IntKind.i64.wrap (a.1.2.2.1+(1:Int))),()),()))
else
 some (.inr (.inr ((),())))
noncomputable def GF:zb.J->Option (aw F4):=bn zR
theorem aih:aT U (an (codeOf Tryz.f148) 1 58) (a6 zb F4 GF):=bN JS (by kernel_rfl) (bb aes af) fun y=>by kernel_rfl
abbrev i148:Shape:=⟨[ap 0],[],24⟩
abbrev US:Shape:=⟨[ar 2],[],24⟩
noncomputable def f148(a:i148.J):Option US.J:=
 bif(decide ((a.1.1.length:Int)>(80:Int))) then
 some ((false,()),())
else
(GF ((a.1.1,(a.1.1.length:Int),(0:Int),()),())).bind fun b=>
(match b with
|.inl c=>
 some ((c.1.1,()),())
|.inr d=>
 some ((true,()),()))
noncomputable def JE:aF:=aK ah Tryz.f148 i148 US [] f148
theorem z148:aE U 148 JE:=aL JS Tryz.func148 (by kernel_rfl) (bb aih af) (fun y=>by kernel_rfl) fun a=>by kernel_rfl
noncomputable abbrev aoI:bg:=[(147,JF)]
theorem JO:aW U (bd ah aoI):=bc ⟨TE,⟨⟩⟩
abbrev PC:Shape:=⟨[aM 2 2 0,aM 3 3 0,ap 4],[aO 2 [lB],aO 3 [br]],17⟩
abbrev Po:List aN:=[(.norm,⟨[aM 2 2 0,aM 3 3 0,ar 16],[aO 2 [lB],aO 3 [br]],17⟩)]
noncomputable def Fy(y:PC.J):Option (aw Po):=
 bif(!(decide (y.2.2.1.1>(5:Int)))) then
(f147 ((y.1.2.2.1,()),())).bind fun a=>
 some (((),(),(!a.1.1),()),(y.2.1.1,()),(y.2.2.1.1,()),())
else
 some (((),(),true,()),(y.2.1.1,()),(y.2.2.1.1,()),())
theorem agk:aT U (an (jV (an (codeOf Tryz.f199) 1 58)) 117 938) (a6 PC Po Fy):=cQ JO (by kernel_rfl) af fun y=>by kernel_rfl
abbrev y2:Shape:=⟨[aM 2 2 0,aM 3 3 0],[aO 2 [lB],aO 3 [br]],17⟩
abbrev FW:List aN:=[(.norm,⟨[aM 2 2 0],[aO 2 [lB]],17⟩),(.ret,⟨[aM 2 2 0],[aO 2 [lB]],17⟩)]
noncomputable def sa(x:F)(y:y2.J):bJ y2 FW:=
(Fy (((),(),x,()),(y.2.1.1,()),((IntKind.i64.wrap (y.2.2.1.1+(1:Int))),()),())).bind fun a=>
 bif a.1.2.2.1 then
 some (.inr (.inr (((),()),(false,()),())))
else
 some (.inl (((),(),()),(a.2.1.1,()),(a.2.2.1.1,()),()))
noncomputable def uQ(y:y2.J):Option (aw FW):=
 some (.inl (((),()),(y.2.1.1,()),()))
theorem ah0:aT U (an (codeOf Tryz.f199) 1 58) (rP 266 6 y2 FW sa uQ):=M' (eM:=7) JO S6 (by kernel_rfl) (bb agk af) (by kernel_rfl) (fun x y=>by kernel_rfl) fun y=>by kernel_rfl
abbrev i199:Shape:=⟨[ap 0],[],17⟩
abbrev Uo:Shape:=⟨[aM 2 2 0],[aO 2 [lB]],17⟩
noncomputable def f199(a:i199.J):Option Uo.J:=
(bif Nat.ble a.1.1.length kj then im sa uQ (bO (47:UInt8) a.1.1) (((),(),()),(false,()),((0:Int),()),()) else none).bind fun b=>
(match b with
|.inl c=>
 some (((),()),(true,()),())
|.inr d=>
 some (((),()),(d.2.1.1,()),()))
noncomputable def Jw:aF:=aK ah Tryz.f199 i199 Uo [] f199
theorem Ty:aE U 199 Jw:=aL JO Tryz.func199 (by kernel_rfl) (bb ah0 af) (fun y=>by kernel_rfl) fun a=>by kernel_rfl
noncomputable abbrev ao2:bg:=[(148,JE),(199,Jw)]
theorem Xn:aW U (bd ah ao2):=bc ⟨z148,Ty,⟨⟩⟩
abbrev QM:Shape:=⟨[aM 1 1 0],[aO 1 [ae,br,br,ae]],39⟩
abbrev Qs:List aN:=[(.norm,⟨[aM 1 1 0,ar 16],[aO 1 [ae,br,br,ae]],39⟩)]
noncomputable def G'(y:QM.J):Option (aw Qs):=
(f199 ((y.2.1.1,()),())).bind fun a=>
 bif(!(!a.2.1.1)) then
 bif(!(decide (y.2.1.2.2.1<(0:Int)))) then
 some (((),(decide (y.2.1.2.2.1>(7:Int))),()),(y.2.1.1,y.2.1.2.1,y.2.1.2.2.1,y.2.1.2.2.2.1,()),())
else
 some (((),true,()),(y.2.1.1,y.2.1.2.1,y.2.1.2.2.1,y.2.1.2.2.2.1,()),())
else
 some (((),true,()),(y.2.1.1,y.2.1.2.1,y.2.1.2.2.1,y.2.1.2.2.2.1,()),())
theorem aif:aT U (an (codeOf Tryz.f152) 1 12) (a6 QM Qs G'):=cQ Xn (by kernel_rfl) af fun y=>by kernel_rfl
abbrev i152:Shape:=⟨[b_ 0 [ae,br,br,ae]],[],39⟩
abbrev UP:Shape:=⟨[ar 2],[],39⟩
noncomputable def f152(a:i152.J):Option UP.J:=
(G' (((),()),(a.1.1.1,a.1.1.2.1,a.1.1.2.2.1,a.1.1.2.2.2.1,()),())).bind fun b=>
 bif b.1.2.1 then
 some ((false,()),())
else
 bif(b.2.1.2.1==(1:Int)) then
 some (((b.2.1.2.2.2.1==([]:F)),()),())
else
 bif(b.2.1.2.1==(2:Int)) then
(f148 ((b.2.1.2.2.2.1,()),())).bind fun c=>
 some ((c.1.1,()),())
else
 bif(b.2.1.2.1==(3:Int)) then
 bif(b.2.1.2.2.1==(0:Int)) then
(f199 ((b.2.1.2.2.2.1,()),())).bind fun d=>
 some ((d.2.1.1,()),())
else
 some ((false,()),())
else
 some ((false,()),())
noncomputable def WM:aF:=aK ah Tryz.f152 i152 UP [] f152
theorem z152:aE U 152 WM:=aL Xn Tryz.func152 (by kernel_rfl) (bb aif af) (fun y=>by kernel_rfl) fun a=>by kernel_rfl
def jT(n:Int):Bool:=(decide (97<=n)&&decide (n<=122))||(decide (48<=n)&&decide (n<=57))||n==46||n==95||n==45
theorem adF(a):f146 a=some ((jT a.1.1,()),()):=by
 obtain⟨⟨n,u⟩,b7⟩:=a;simp only[f146,jT,ge_iff_le];generalize decide ((97:Int)<=n)=b1;generalize decide (n<=(122:Int))=b2;generalize decide ((48:Int)<=n)=b3;generalize decide (n<=(57:Int))=rc;generalize(n==(46:Int))=w_;generalize(n==(95:Int))=L_;generalize(n==(45:Int))=L9;cases b1<;>cases b2<;>cases b3<;>cases rc<;>cases w_<;>cases L_<;>cases L9<;>rfl
theorem acl(a):f231 a=some ((jT a.1.1,()),()):=by
 obtain⟨⟨n,u⟩,b7⟩:=a;simp only[f231,jT,ge_iff_le];generalize decide ((97:Int)<=n)=b1;generalize decide (n<=(122:Int))=b2;generalize decide ((48:Int)<=n)=b3;generalize decide (n<=(57:Int))=rc;generalize(n==(46:Int))=w_;generalize(n==(95:Int))=L_;generalize(n==(45:Int))=L9;cases b1<;>cases b2<;>cases b3<;>cases rc<;>cases w_<;>cases L_<;>cases L9<;>rfl
def h5(s:F):Bool:=s.all (fun b=>jT b.toNat)&&within s.length 1 10&&!(s==[46])&&!(s==[46,46])
theorem Pa(a)(hs:cv a.1.1.length):f91 a=some ((h5 a.1.1,()),()):=by
 obtain⟨⟨s,u⟩,b7⟩:=a;have hs:s.length<=2097152:=hs;have key:HQ ((s,((0:Int),())),())=some (bif allI (fun _ b=>jT b.toNat) 0 s then .inr ((s,()),()) else .inl ((false,()),())):=by
  refine fl AT s (fun i=>((s,((i:Int),())),())) _ _ _ (fun i x hx=>?_) ?_
  ·have hi:=ct hx;have hw:am i:=by unfold am;omega
   simp only[AT,bZ hi,cond_true,bQ,hx,Option.bind_some,adF,bK hw];cases jT x.toNat<;>rfl
  ·simp only[AT,cX,cond_false]
 rw[fX] at key;simp only[f91,key,Option.bind_some,h5];cases List.all s (fun b=>jT b.toNat) with
 |false=>rfl
 |true=>
  simp only[cond_true,nA,Option.bind_some,Bool.true_and];cases within (s.length:Int) 1 10<;>cases (s==[46])<;>rfl
theorem O6(a)(hs:cv a.1.1.length):f147 a=some ((h5 a.1.1,()),()):=by
 obtain⟨⟨s,u⟩,b7⟩:=a;have hs:s.length<=2097152:=hs;have key:Gy ((s,((s.length:Int),((0:Int),()))),())=some (bif allI (fun _ b=>jT b.toNat) 0 s then .inr ((s,()),()) else .inl ((false,()),())):=by
  refine fl zJ s (fun i=>((s,((s.length:Int),((i:Int),()))),())) _ _ _ (fun i x hx=>?_) ?_
  ·have hi:=ct hx;have hw:am i:=by unfold am;omega
   simp only[zJ,bZ hi,cond_true,bQ,hx,Option.bind_some,acl,bK hw];cases jT x.toNat<;>rfl
  ·simp only[zJ,cX,cond_false]
 rw[fX] at key;have wA:f195 ((s,()),())=some ((List.all s (fun b=>jT b.toNat)&&!(s==([]:F)),()),()):=by
  simp only[f195,key,Option.bind_some];cases List.all s (fun b=>jT b.toNat)<;>rfl
 have h1:decide ((1:Int)<=(s.length:Int))=!(s==([]:F)):=by
  cases s with
  |nil=>rfl
  |cons b r=>
   have:((b::r)==([]:F))=false:=rfl;simp only[List.length_cons];rw[this];simp only[Bool.not_false,decide_eq_true_eq];omega
 simp only[f147,wA,Option.bind_some,h5,within,h1];cases decide ((s.length:Int)<=10)<;>cases (s==[46])<;>cases (s==[46,46])<;>cases List.all s (fun b=>jT b.toNat)<;>cases (s==([]:F))<;>rfl
def fY(s:F):Bool:=(bO 47 s).all h5&&decide ((bO 47 s).length<=5)
theorem O'(a)(hs:cv a.1.1.length):f193 a=some ((fY a.1.1,()),()):=by
 obtain⟨⟨s,u⟩,b7⟩:=a;have hs:s.length<=2097152:=hs;have hlen:=ru 47 s;have fG:f73 ((s,((47:Int),((IntKind.i64.wrap ((s.length:Int)+(1:Int))),()))),())=some (((),()),(bO 47 s,())):=
  P_ 47 _ hs rfl (bK (by unfold am;omega))
 have key:GA (((),((0:Int),())),(bO 47 s,()))=some (bif allI (fun _ x=>h5 x) 0 (bO 47 s) then .inr (((),()),(bO 47 s,())) else .inl ((false,()),())):=by
  refine fl zL (bO 47 s) (fun i=>(((),((i:Int),())),(bO 47 s,()))) _ _ _ (fun i x hx=>?_) ?_
  ·have hi:=ct hx;have hw:am i:=by unfold am;omega
   have hxl:x.length<=s.length:=xt 47 s x (List.mem_of_getElem? hx);simp only[zL,bZ hi,cond_true,fm hi,hx,Option.bind_some];rw[Pa _ (show x.length<=2097152 by omega)]
   simp only[Option.bind_some,bK hw];cases h5 x<;>rfl
  ·simp only[zL,cX,cond_false]
 rw[fX] at key;simp only[f193,fG,Option.bind_some,key,fY];cases List.all (bO 47 s) h5 with
 |false=>rfl
 |true=>have:=BT (bO 47 s).length 5;simp only[cond_true,Bool.true_and];rw[<-this];rfl
theorem EF(a)(hs:cv a.1.1.length):f199 a=some (((),()),((fY a.1.1,()),())):=by
 obtain⟨⟨s,u⟩,b7⟩:=a;have hs:s.length<=2097152:=hs;have Jd:Nat.ble s.length kj=true:=Nat.ble_eq_true_of_le (by unfold kj;omega)
 have fold:∀(r:List F) (k:Nat),(∀x,x∈r->x.length<=s.length)->k<=5->
   im sa uQ r (((),((),())),((false,()),(((k:Int),()),())))=
    some (bif r.all h5&&decide (k+r.length<=5) then(.inl (((),()),((false,()),()))) else(.inr (((),()),((false,()),())))):=by
  intro r;induction r with
  |nil=>
   intro k _ hk;have:decide (k+0<=5)=true:=by simpa using hk
   simp only[im,uQ,List.all_nil,List.length_nil,this,Bool.and_self,cond_true]
  |cons x r ih=>
   intro k hr hk;have hx:=hr x List.mem_cons_self;have kC:=O6 ((x,()),()) (show x.length<=2097152 by omega)
   have hw:=bK (i:=k) (by unfold am;omega)
   have wB:decide (((k+1:Nat):Int)>5)=!decide (k+1<=5):=by by_cases h:k+1<=5<;>simp only[h,decide_true,decide_false,Bool.not_true,Bool.not_false,decide_eq_true_eq,decide_eq_false_iff_not]<;>omega
   have step:sa x (((),((),())),((false,()),(((k:Int),()),())))=
     some (bif h5 x&&decide (k+1<=5) then .inl (((),((),())),((false,()),((((k+1:Nat):Int),()),()))) else .inr (.inr (((),()),((false,()),())))):=by
    simp only[sa,Fy,hw,wB,Bool.not_not,kC,Option.bind_some];cases decide (k+1<=5) with
    |false=>cases h5 x<;>rfl
    |true=>cases h5 x<;>rfl
   rw[im,step,List.all_cons];cases hn:h5 x with
   |false=>rfl
   |true=>
    simp only[Bool.true_and];cases au:decide (k+1<=5) with
    |false=>
     have:decide (k+(x::r).length<=5)=false:=by simp only[decide_eq_false_iff_not,List.length_cons] at au ⊢;omega
     rw[this];simp
    |true=>
     simp only[cond_true];rw[ih (k+1) (fun y hy=>hr y (List.mem_cons_of_mem _ hy)) (by simpa using au)]
     have e1:k+1+r.length=k+(x::r).length:=by simp only[List.length_cons];omega
     rw[e1]
 have key:=fold (bO (47:UInt8) s) 0 (fun x hx=>xt 47 s x hx) (Nat.zero_le _)
 have IZ:im sa uQ (bO (47:UInt8) s) (((),((),())),((false,()),(((0:Int),()),())))=some (bif fY s then(.inl (((),()),((false,()),()))) else(.inr (((),()),((false,()),())))):=by
  refine key.trans ?_
  unfold fY;rw[Nat.zero_add]
 simp only[f199,Jd,cond_true,IZ,Option.bind_some];cases fY s<;>rfl
def kg(s:F):Bool:=s.all (fun b=>(b.toNat:Int)==10||within b.toNat 32 126)&&decide (s.length<=80)
theorem adm(b:UInt8):IntKind.i64.wrap (b.toNat:Int)=(b.toNat:Int):=by
 have:=b.toNat_lt;rw[ee (by omega) (by omega)]
theorem O9(a)(hs:cv a.1.1.length):f92 a=some ((kg a.1.1,()),()):=by
 obtain⟨⟨s,u⟩,b7⟩:=a;have hs:s.length<=2097152:=hs;have key:HP ((s,((0:Int),())),())=some (bif allI (fun _ b=>(b.toNat:Int)==10||within b.toNat 32 126) 0 s then .inr ((s,()),()) else .inl ((false,()),())):=by
  refine fl AS s (fun i=>((s,((i:Int),())),())) _ _ _ (fun i x hx=>?_) ?_
  ·have hi:=ct hx;have hw:am i:=by unfold am;omega
   have hne:((x.toNat:Int) !=10)=!((x.toNat:Int)==10):=rfl;simp only[AS,bZ hi,cond_true,GY,bQ,hx,Option.bind_some,hne,nA,adm];cases ((x.toNat:Int)==10)<;>cases within (x.toNat:Int) 32 126<;>simp only[Bool.not_true,Bool.not_false,cond_true,cond_false,Option.bind_some,bK hw,Bool.or_true,Bool.true_or,Bool.or_false]
  ·simp only[AS,cX,cond_false]
 rw[fX] at key;simp only[f92,key,Option.bind_some,kg];cases List.all s (fun b=>(b.toNat:Int)==10||within b.toNat 32 126) with
 |false=>rfl
 |true=>have:=BT s.length 80;simp only[cond_true,Bool.true_and];rw[<-this];rfl
theorem abm(a):f196 a=some ((within a.1.1 32 126,()),()):=by
 simp only[f196,within,ge_iff_le];cases decide ((32:Int)<=a.1.1)<;>rfl
theorem Ns(a)(hs:cv a.1.1.length):f148 a=some ((kg a.1.1,()),()):=by
 obtain⟨⟨s,u⟩,b7⟩:=a;have hs:s.length<=2097152:=hs;have key:GF ((s,((s.length:Int),((0:Int),()))),())=some (bif allI (fun _ b=>(b.toNat:Int)==10||within b.toNat 32 126) 0 s then .inr ((),()) else .inl ((false,()),())):=by
  refine fl zR s (fun i=>((s,((s.length:Int),((i:Int),()))),())) _ _ _ (fun i x hx=>?_) ?_
  ·have hi:=ct hx;have hw:am i:=by unfold am;omega
   have hne:((x.toNat:Int) !=10)=!((x.toNat:Int)==10):=rfl;simp only[zR,bZ hi,cond_true,Ew,bQ,hx,Option.bind_some,hne,abm];cases ((x.toNat:Int)==10)<;>cases within (x.toNat:Int) 32 126<;>simp only[Bool.not_true,Bool.not_false,cond_true,cond_false,Option.bind_some,bK hw,Bool.or_true,Bool.true_or,Bool.or_false]
  ·simp only[zR,cX,cond_false]
 rw[fX] at key;have asA:decide ((s.length:Int)>80)=!decide (s.length<=80):=by by_cases h:s.length<=80<;>simp only[h,decide_true,decide_false,Bool.not_true,Bool.not_false,decide_eq_true_eq,decide_eq_false_iff_not]<;>omega
 simp only[f148,key,Option.bind_some,kg,asA];cases decide (s.length<=80)<;>cases List.all s (fun b=>(b.toNat:Int)==10||within b.toNat 32 126)<;>rfl
def eK(e:aC):Bool:=fY e.path&&(bif e.kind==1 then within e.mode 0 7&&e.text==[] else bif e.kind==2 then within e.mode 0 7&&kg e.text else bif e.kind==3 then e.mode==0&&fY e.text else false)
abbrev lu(e:aC):Prop:=cv e.path.length/\cv e.text.length
theorem adD(a)(h1:cv a.1.1.1.length)(h2:cv a.1.1.2.2.2.1.length):f143 a=some ((eK ⟨a.1.1.1,a.1.1.2.1,a.1.1.2.2.1,a.1.1.2.2.2.1⟩,()),()):=by
 obtain⟨⟨⟨p,k,m,t,u⟩,b7⟩,ln⟩:=a;have e1:=O' ((p,()),()) h1;have e2:=O' ((t,()),()) h2;have bz:=O9 ((t,()),()) h2;simp only[f143,e1,e2,bz,nA,Option.bind_some,eK];cases fY p with
 |false=>rfl
 |true=>cases (k==1)<;>cases (k==2)<;>cases (k==3)<;>cases within m 0 7<;>cases (m==0)<;>rfl
theorem adM(a)(h1:cv a.1.1.1.length)(h2:cv a.1.1.2.2.2.1.length):f152 a=some ((eK ⟨a.1.1.1,a.1.1.2.1,a.1.1.2.2.1,a.1.1.2.2.2.1⟩,()),()):=by
 obtain⟨⟨⟨p,k,m,t,u⟩,b7⟩,ln⟩:=a;have e1:=EF ((p,()),()) h1;have e2:=EF ((t,()),()) h2;have bz:=Ns ((t,()),()) h2;have hm:within m 0 7=true\/(m==0)=false:=by
  cases h:(m==0) with
  |false=>exact .inr rfl
  |true=>left;rw[show m=(0:Int) from eq_of_beq h];rfl
 simp only[f152,G',e1,e2,bz,Option.bind_some,eK,n8,mX,Bool.not_not];unfold within at hm ⊢;cases fY p with
 |false=>rfl
 |true=>
  cases h0:decide ((0:Int)<=m)<;>cases iy:decide (m<=7)<;>rw[h0,iy] at hm<;>cases Zm:(m==0)<;>rw[Zm] at hm<;>
   first|(simp at hm;done)|(simp only[Bool.not_true,Bool.not_false,cond_true,cond_false,Option.bind_some,Zm,e2,bz,Bool.and_true,Bool.and_false,Bool.true_and,Bool.false_and];cases (k==1)<;>cases (k==2)<;>cases (k==3)<;>rfl)
abbrev y5:Shape:=⟨[aH 0 .entry,ap 1,ad 4,ar 5,ad 6],[],36⟩
abbrev rW:List aN:=[(.exit 0,⟨[aH 0 .entry,ap 1,ad 4,ar 5,ad 6],[],36⟩)]
noncomputable def zK(y:y5.J):bJ y5 rW:=
 bif(decide (y.1.2.2.2.2.1<(y.1.1.length:Int))) then
(aP y.1.1 y.1.2.2.2.2.1).bind fun a=>
 bif(Op.bytesLess a.path y.1.2.1) then
 some (.inl ((y.1.1,y.1.2.1,y.1.2.2.1,y.1.2.2.2.1,(IntKind.i64.wrap (y.1.2.2.2.2.1+(1:Int))),()),()))
else
 some (.inr ((y.1.1,y.1.2.1,y.1.2.2.1,y.1.2.2.2.1,y.1.2.2.2.2.1,()),()))
else
 some (.inr ((y.1.1,y.1.2.1,y.1.2.2.1,y.1.2.2.2.1,y.1.2.2.2.2.1,()),()))
noncomputable def Gz:y5.J->Option (aw rW):=bn zK
theorem ah3:aT U (an (codeOf Tryz.f194) 1 28) (a6 y5 rW Gz):=bN g0 (by kernel_rfl) af fun y=>by kernel_rfl
abbrev i194:Shape:=⟨[aH 0 .entry,ap 1],[],36⟩
abbrev Ur:Shape:=⟨[ad 4,ar 5],[],36⟩
noncomputable def f194(a:i194.J):Option Ur.J:=
(Gz ((a.1.1,a.1.2.1,(0:Int),false,(0:Int),()),())).bind fun b=>
 bif(decide (b.1.2.2.2.2.1<(b.1.1.length:Int))) then
(aP b.1.1 b.1.2.2.2.2.1).bind fun c=>
 some ((b.1.2.2.2.2.1,(c.path==b.1.2.1),()),())
else
 some ((b.1.2.2.2.2.1,false,()),())
noncomputable def Jx:aF:=aK ah Tryz.f194 i194 Ur [] f194
theorem z194:aE U 194 Jx:=aL g0 Tryz.func194 (by kernel_rfl) (bb ah3 af) (fun y=>by kernel_rfl) fun a=>by kernel_rfl
noncomputable abbrev ao7:bg:=[(194,Jx)]
theorem apW:aW U (bd ah ao7):=bc ⟨z194,⟨⟩⟩
abbrev i144:Shape:=⟨[aH 0 .entry,ap 1],[],26⟩
abbrev UW:Shape:=⟨[ar 4],[],26⟩
noncomputable def f144(a:i144.J):Option UW.J:=
(f194 ((a.1.1,a.1.2.1,()),())).bind fun b=>
 bif(!(a.1.2.1==([]:F))) then
 bif b.1.2.1 then
(aP a.1.1 b.1.1).bind fun c=>
 some (((c.kind==(1:Int)),()),())
else
 some ((false,()),())
else
 some ((true,()),())
noncomputable def WP:aF:=aK ah Tryz.f144 i144 UW [] f144
theorem amN:aE U 144 WP:=aL apW Tryz.func144 (by kernel_rfl) af (fun y=>by kernel_rfl) fun a=>by kernel_rfl
abbrev zc:Shape:=⟨[ap 0,ad 3],[],18⟩
abbrev F5:List aN:=[(.ret,⟨[ap 2],[],18⟩),(.exit 0,⟨[],[],18⟩)]
noncomputable def Ha(y:zc.J):bJ zc F5:=
 bif(decide (y.1.2.1>=(0:Int))) then
(aP y.1.1 y.1.2.1).bind fun a=>
 bif((a.toNat:Int)==(47:Int)) then
(bw y.1.1 (0:Int) y.1.2.1).bind fun b=>
 some (.inr (.inl ((b,()),())))
else
 some (.inl ((y.1.1,(IntKind.i64.wrap (y.1.2.1-(1:Int))),()),()))
else
 some (.inr (.inr ((),())))
noncomputable def GG:zc.J->Option (aw F5):=bn Ha
theorem aii:aT U (an (codeOf Tryz.f145) 1 26) (a6 zc F5 GG):=bN g0 (by kernel_rfl) af fun y=>by kernel_rfl
abbrev i145:Shape:=⟨[ap 0],[],18⟩
abbrev UV:Shape:=⟨[ap 2],[],18⟩
noncomputable def f145(a:i145.J):Option UV.J:=
(GG ((a.1.1,(IntKind.i64.wrap ((a.1.1.length:Int)-(1:Int))),()),())).bind fun b=>
(match b with
|.inl c=>
 some ((c.1.1,()),())
|.inr d=>
 some ((([]:F),()),()))
noncomputable def WO:aF:=aK ah Tryz.f145 i145 UV [] f145
theorem z145:aE U 145 WO:=aL g0 Tryz.func145 (by kernel_rfl) (bb aii af) (fun y=>by kernel_rfl) fun a=>by kernel_rfl
abbrev yY:Shape:=⟨[ap 0,(1,.ak (.d (.int .u8))),ad 5],[],19⟩
abbrev FS:List aN:=[(.ret,⟨[ad 4],[],19⟩),(.exit 0,⟨[],[],19⟩)]
noncomputable def G5(y:yY.J):bJ yY FS:=
 bif(decide (y.1.2.2.1>=(0:Int))) then
(aP y.1.1 y.1.2.2.1).bind fun a=>
 bif((a.toNat:Int)==y.1.2.1) then
 some (.inr (.inl ((y.1.2.2.1,()),())))
else
 some (.inl ((y.1.1,y.1.2.1,(IntKind.i64.wrap (y.1.2.2.1-(1:Int))),()),()))
else
 some (.inr (.inr ((),())))
noncomputable def Gv:yY.J->Option (aw FS):=bn G5
theorem ahS:aT U (an (codeOf Tryz.f267) 1 26) (a6 yY FS Gv):=bN g0 (by kernel_rfl) af fun y=>by kernel_rfl
abbrev i267:Shape:=⟨[ap 0,(1,.ak (.d (.int .u8)))],[],19⟩
abbrev T0:Shape:=⟨[ad 4],[],19⟩
noncomputable def f267(a:i267.J):Option T0.J:=
(Gv ((a.1.1,a.1.2.1,(IntKind.i64.wrap ((a.1.1.length:Int)-(1:Int))),()),())).bind fun b=>
(match b with
|.inl c=>
 some ((c.1.1,()),())
|.inr d=>
 some ((((-1):Int),()),()))
noncomputable def V3:aF:=aK ah Tryz.f267 i267 T0 [] f267
theorem amf:aE U 267 V3:=aL g0 Tryz.func267 (by kernel_rfl) (bb ahS af) (fun y=>by kernel_rfl) fun a=>by kernel_rfl
noncomputable abbrev aou:bg:=[(267,V3)]
theorem apE:aW U (bd ah aou):=bc ⟨amf,⟨⟩⟩
abbrev i233:Shape:=⟨[ap 0,(1,.ak (.d (.int .u8)))],[],8⟩
abbrev T7:Shape:=⟨[ad 4],[],8⟩
noncomputable def f233(a:i233.J):Option T7.J:=
(f267 ((a.1.1,a.1.2.1,()),())).bind fun b=>
 some ((b.1.1,()),())
noncomputable def V_:aF:=aK ah Tryz.f233 i233 T7 [] f233
theorem z233:aE U 233 V_:=aL apE Tryz.func233 (by kernel_rfl) af (fun y=>by kernel_rfl) fun a=>by kernel_rfl
noncomputable abbrev aoH:bg:=[(199,Jw),(233,V_)]
theorem apM:aW U (bd ah aoH):=bc ⟨Ty,z233,⟨⟩⟩
abbrev i200:Shape:=⟨[ap 0],[],11⟩
abbrev Un:Shape:=⟨[ap 2],[],11⟩
noncomputable def f200(a:i200.J):Option Un.J:=
(f199 ((a.1.1,()),())).bind fun b=>
 bif(!b.2.1.1) then
 some ((([]:F),()),())
else
(f233 ((a.1.1,(47:Int),()),())).bind fun c=>
(bw a.1.1 (0:Int) (gz c.1.1 (0:Int))).bind fun d=>
 some ((d,()),())
noncomputable def Wm:aF:=aK ah Tryz.f200 i200 Un [] f200
theorem amv:aE U 200 Wm:=aL apM Tryz.func200 (by kernel_rfl) af (fun y=>by kernel_rfl) fun a=>by kernel_rfl
abbrev i283:Shape:=⟨[ap 0],[],6⟩
abbrev TV:Shape:=⟨[ar 2],[],6⟩
noncomputable def f283(a:i283.J):Option TV.J:=
 some (((!(a.1.1==a.1.1)),()),())
noncomputable def VY:aF:=aK ah Tryz.f283 i283 TV [] f283
theorem ama:aE U 283 VY:=aL g0 Tryz.func283 (by kernel_rfl) af (fun y=>by kernel_rfl) fun a=>by kernel_rfl
noncomputable abbrev aop:bg:=[(283,VY)]
theorem apA:aW U (bd ah aop):=bc ⟨ama,⟨⟩⟩
abbrev i268:Shape:=⟨[ap 0,ap 1],[],20⟩
abbrev TZ:Shape:=⟨[ad 4],[],20⟩
noncomputable def f268(a:i268.J):Option TZ.J:=
(f283 ((a.1.1,()),())).bind fun b=>
(f283 ((a.1.2.1,()),())).bind fun c=>
 bif b.1.1 then
 bif c.1.1 then
 some (((0:Int),()),())
else
 some ((((-1):Int),()),())
else
 bif c.1.1 then
 some (((1:Int),()),())
else
 bif(Op.bytesLess a.1.1 a.1.2.1) then
 some ((((-1):Int),()),())
else
 bif(!(Op.bytesLess a.1.1 a.1.2.1||a.1.1==a.1.2.1)) then
 some (((1:Int),()),())
else
 some (((0:Int),()),())
noncomputable def V2:aF:=aK ah Tryz.f268 i268 TZ [] f268
theorem ame:aE U 268 V2:=aL apA Tryz.func268 (by kernel_rfl) af (fun y=>by kernel_rfl) fun a=>by kernel_rfl
noncomputable abbrev aot:bg:=[(268,V2)]
theorem apD:aW U (bd ah aot):=bc ⟨ame,⟨⟩⟩
abbrev i235:Shape:=⟨[b_ 0 [ae,br,br,ae],b_ 1 [ae,br,br,ae]],[],10⟩
abbrev T6:Shape:=⟨[ad 4],[],10⟩
noncomputable def f235(a:i235.J):Option T6.J:=
(f268 ((a.1.1.1,a.1.2.1.1,()),())).bind fun b=>
 some ((b.1.1,()),())
noncomputable def V9:aF:=aK ah Tryz.f235 i235 T6 [] f235
theorem aml:aE U 235 V9:=aL apD Tryz.func235 (by kernel_rfl) af (fun y=>by kernel_rfl) fun a=>by kernel_rfl
noncomputable abbrev akK:bg:=[(235,V9)]
theorem SG:aW U (bd ah akK):=bc ⟨aml,⟨⟩⟩
abbrev xM:Shape:=⟨[aH 0 .entry,(2,.ak (.fn 235 [])),aM 4 4 0,ad 6,ar 7,ad 8,ad 9,ad 10],[aO 4 [ae,br,br,ae]],49⟩
abbrev DY:List aN:=[(.exit 0,⟨[aH 0 .entry,(2,.ak (.fn 235 [])),aM 4 4 0,ad 6,ar 7,ad 8,ad 9],[aO 4 [ae,br,br,ae]],49⟩)]
noncomputable def xX(y:xM.J):bJ xM DY:=
 bif(decide (y.1.2.2.2.2.2.2.1<y.1.2.2.2.2.2.2.2.1)) then
(e9 .u64 (IntKind.u64.wrap (IntKind.i64.wrap (y.1.2.2.2.2.2.2.1+y.1.2.2.2.2.2.2.2.1))) (1:Int)).bind fun a=>
(aP y.1.1 (IntKind.i64.wrap a)).bind fun b=>
(f235 (((b.path,b.kind,b.mode,b.text,()),(y.2.1.1,y.2.1.2.1,y.2.1.2.2.1,y.2.1.2.2.2.1,()),()),())).bind fun c=>
 bif(decide (c.1.1<(0:Int))) then
 some (.inl ((y.1.1,(),(),y.1.2.2.2.1,y.1.2.2.2.2.1,y.1.2.2.2.2.2.1,(IntKind.i64.wrap ((IntKind.i64.wrap a)+(1:Int))),y.1.2.2.2.2.2.2.2.1,()),(y.2.1.1,y.2.1.2.1,y.2.1.2.2.1,y.2.1.2.2.2.1,()),()))
else
 some (.inl ((y.1.1,(),(),y.1.2.2.2.1,y.1.2.2.2.2.1,y.1.2.2.2.2.2.1,y.1.2.2.2.2.2.2.1,(IntKind.i64.wrap a),()),(y.2.1.1,y.2.1.2.1,y.2.1.2.2.1,y.2.1.2.2.2.1,()),()))
else
 some (.inr ((y.1.1,(),(),y.1.2.2.2.1,y.1.2.2.2.2.1,y.1.2.2.2.2.2.1,y.1.2.2.2.2.2.2.1,()),(y.2.1.1,y.2.1.2.1,y.2.1.2.2.1,y.2.1.2.2.2.1,()),()))
noncomputable def xW:xM.J->Option (aw DY):=bn xX
theorem aek:aT U (an (codeOf Tryz.f234) 1 60) (a6 xM DY xW):=bN SG (by kernel_rfl) af fun y=>by kernel_rfl
abbrev R8:Shape:=⟨[aH 0 .entry,b_ 1 [ae,br,br,ae],(2,.ak (.fn 235 []))],[],49⟩
abbrev RS:Shape:=⟨[ad 6,ar 7],[],49⟩
noncomputable def A_(a:R8.J):Option RS.J:=
(xW ((a.1.1,(),(),(0:Int),false,(a.1.1.length:Int),(0:Int),(a.1.1.length:Int),()),(a.1.2.1.1,a.1.2.1.2.1,a.1.2.1.2.2.1,a.1.2.1.2.2.2.1,()),())).bind fun b=>
 bif(decide (b.1.2.2.2.2.2.2.1<b.1.2.2.2.2.2.1)) then
(aP b.1.1 b.1.2.2.2.2.2.2.1).bind fun c=>
(f235 (((c.path,c.kind,c.mode,c.text,()),(b.2.1.1,b.2.1.2.1,b.2.1.2.2.1,b.2.1.2.2.2.1,()),()),())).bind fun d=>
 some ((b.1.2.2.2.2.2.2.1,(d.1.1==(0:Int)),()),())
else
 some ((b.1.2.2.2.2.2.2.1,false,()),())
noncomputable def Sv:aF:=aK ah Tryz.f234 R8 RS [] A_
theorem aje:aE U 234 Sv:=aL SG Tryz.func234 (by kernel_rfl) (bb aek af) (fun y=>by kernel_rfl) fun a=>by kernel_rfl
noncomputable abbrev aoG:bg:=[(234,Sv)]
theorem apL:aW U (bd ah aoG):=bc ⟨aje,⟨⟩⟩
abbrev i201:Shape:=⟨[aH 0 .entry,ap 1],[],12⟩
abbrev Um:Shape:=⟨[ad 4,ar 5],[],12⟩
noncomputable def f201(a:i201.J):Option Um.J:=
(A_ ((a.1.1,(a.1.2.1,(0:Int),(0:Int),([]:F),()),(),()),())).bind fun b=>
 some ((b.1.1,b.1.2.1,()),())
noncomputable def Jv:aF:=aK ah Tryz.f201 i201 Um [] f201
theorem z201:aE U 201 Jv:=aL apL Tryz.func201 (by kernel_rfl) af (fun y=>by kernel_rfl) fun a=>by kernel_rfl
theorem Bf:∀a:F,Op.bytesLess a a=false:=by
 intro a;induction a with
 |nil=>rfl
 |cons b r ih=>simp[Op.bytesLess,ih]
theorem uC:∀a b c:F,Op.bytesLess a b=true->Op.bytesLess b c=true->Op.bytesLess a c=true:=by
 intro a;induction a with
 |nil=>intro b c h1 h2;cases c with
  |nil=>cases b<;>simp[Op.bytesLess] at h2
  |cons z c=>rfl
 |cons x a ih=>
  intro b c h1 h2;cases b with
  |nil=>simp[Op.bytesLess] at h1
  |cons y b=>
   cases c with
   |nil=>simp[Op.bytesLess] at h2
   |cons z c=>
    simp only[Op.bytesLess,Bool.or_eq_true,decide_eq_true_eq,Bool.and_eq_true,beq_iff_eq] at h1 h2 ⊢;rcases h1 with h1|⟨rfl,h1⟩
    ·rcases h2 with h2|⟨rfl,h2⟩
     ·exact .inl (UInt8.lt_trans h1 h2)
     ·exact .inl h1
    ·rcases h2 with h2|⟨rfl,h2⟩
     ·exact .inl h2
     ·exact .inr ⟨rfl,ih b c h1 h2⟩
theorem akD:∀a b:F,Op.bytesLess a b=false->(a==b)=false->Op.bytesLess b a=true:=by
 intro a;induction a with
 |nil=>intro b h1 h2;cases b with
  |nil=>simp at h2
  |cons y b=>simp[Op.bytesLess] at h1
 |cons x a ih=>
  intro b h1 h2;cases b with
  |nil=>rfl
  |cons y b=>
   simp only[Op.bytesLess,Bool.or_eq_false_iff,decide_eq_false_iff_not,Bool.and_eq_false_iff,beq_eq_false_iff_ne,ne_eq] at h1;simp only[Op.bytesLess,Bool.or_eq_true,decide_eq_true_eq,Bool.and_eq_true,beq_iff_eq];by_cases hxy:x=y
   ·subst hxy;refine .inr ⟨rfl,ih b ?_ ?_⟩
    ·rcases h1.2 with h|h
     ·exact absurd rfl h
     ·exact h
    ·cases h:(a==b) with
     |false=>rfl
     |true=>rw[eq_of_beq h] at h2;simp at h2
   ·exact .inl (by
     have:=h1.1;rcases UInt8.lt_or_lt_of_ne (fun h=>hxy h) with h|h
     ·exact absurd h this
     ·exact h)
theorem ai3{a b:F}(h:Op.bytesLess a b=true):Op.bytesLess b a=false:=by
 cases h2:Op.bytesLess b a with
 |false=>rfl
 |true=>have:=uC a b a h h2;rw[Bf] at this;cases this
theorem alY{a b:F}(h:Op.bytesLess a b=true):(a==b)=false:=by
 cases h2:(a==b) with
 |false=>rfl
 |true=>rw[eq_of_beq h2,Bf] at h;cases h
theorem ai2:∀(s:F) (i:Nat),i<s.length->Op.bytesLess (s.take i) s=true:=by
 intro s;induction s with
 |nil=>intro i h;simp at h
 |cons b r ih=>
  intro i h;cases i with
  |zero=>rfl
  |succ i=>simp only[List.take_succ_cons,Op.bytesLess];simp[ih i (by simpa using h)]
def kZ(c:UInt8)(s:F):Nat->Option Nat
 |0=>none
 |n+1=>match s[n]? with
  |some b=>bif(b.toNat:Int)==(c.toNat:Int) then some n else kZ c s n
  |none=>none
theorem MO{c:UInt8}{s:F}:∀{n i:Nat},kZ c s n=some i->i<n/\i<s.length:=by
 intro n;induction n with
 |zero=>intro i h;cases h
 |succ n ih=>
  intro i h;simp only[kZ] at h;split at h
  ·rename_i b hb;cases hc:((b.toNat:Int)==(c.toNat:Int)) with
   |true=>rw[hc] at h;cases h;exact⟨Nat.lt_succ_self _,ct hb⟩
   |false=>rw[hc] at h;have:=ih h;omega
  ·cases h
def jh(s:F):F:=match kZ 47 s s.length with
 |some i=>s.take i
 |none=>[]
theorem afK{s:F}(h:(jh s==[])=false):Op.bytesLess (jh s) s=true:=by
 unfold jh at h ⊢;split
 ·rename_i i hi;exact ai2 s i (MO hi).2
 ·rename_i hi;rw[hi] at h;cases h
theorem ajs(a)(hs:cv a.1.1.length):f145 a=some ((jh a.1.1,()),()):=by
 obtain⟨⟨s,u⟩,b7⟩:=a;have hs:s.length<=2097152:=hs;have key:∀n,n<=s.length->GG ((s,((n:Int)-1,())),())=some (match kZ 47 s n with|some i=>.inl ((s.take i,()),())|none=>.inr ((),())):=by
  intro n;induction n with
  |zero=>intro _;exact ca (by rfl)
  |succ n ih=>
   intro hn;have e:((n+1:Nat):Int)-1=(n:Int):=by omega
   obtain⟨b,hb⟩:∃b,s[n]? =some b:=⟨s[n],List.getElem?_eq_getElem hn⟩;have h0:decide ((n:Int)>=0)=true:=by simp
   rw[e];simp only[kZ,hb];cases hc:((b.toNat:Int)==((47:UInt8).toNat:Int)) with
   |true=>
    refine ca ?_
    simp only[Ha,h0,cond_true,bQ,hb,Option.bind_some];rw[show((b.toNat:Int)==47)=true from hc,hU (by omega)]
    rfl
   |false=>
    refine(du ?_).trans (ih (by omega))
    simp only[Ha,h0,cond_true,bQ,hb,Option.bind_some];rw[show((b.toNat:Int)==47)=false from hc,ee (by omega) (by omega)]
    rfl
 have hw:IntKind.i64.wrap ((s.length:Int)-1)=(s.length:Int)-1:=ee (by omega) (by omega)
 simp only[f145,hw,key s.length (Nat.le_refl _),Option.bind_some,jh];cases kZ 47 s s.length<;>rfl
theorem abt(a)(hs:cv a.1.1.length)(asB:a.1.2.1=47):f267 a=some (((match kZ 47 a.1.1 a.1.1.length with|some i=>(i:Int)|none=>-1),()),()):=by
 obtain⟨⟨s,c,u⟩,b7⟩:=a;obtain rfl:c=47:=asB;have hs:s.length<=2097152:=hs;have key:∀n,n<=s.length->Gv ((s,((47:Int),((n:Int)-1,()))),())=some (match kZ 47 s n with|some i=>.inl (((i:Int),()),())|none=>.inr ((),())):=by
  intro n;induction n with
  |zero=>intro _;exact ca (by rfl)
  |succ n ih=>
   intro hn;have e:((n+1:Nat):Int)-1=(n:Int):=by omega
   obtain⟨b,hb⟩:∃b,s[n]? =some b:=⟨s[n],List.getElem?_eq_getElem hn⟩;have h0:decide ((n:Int)>=0)=true:=by simp
   rw[e];simp only[kZ,hb];cases hc:((b.toNat:Int)==((47:UInt8).toNat:Int)) with
   |true=>
    refine ca ?_
    simp only[G5,h0,cond_true,bQ,hb,Option.bind_some];rw[show((b.toNat:Int)==47)=true from hc]
    rfl
   |false=>
    refine(du ?_).trans (ih (by omega))
    simp only[G5,h0,cond_true,bQ,hb,Option.bind_some];rw[show((b.toNat:Int)==47)=false from hc,ee (by omega) (by omega)]
    rfl
 have hw:IntKind.i64.wrap ((s.length:Int)-1)=(s.length:Int)-1:=ee (by omega) (by omega)
 simp only[f267,hw,key s.length (Nat.le_refl _),Option.bind_some];cases kZ 47 s s.length<;>rfl
theorem afG(a)(hs:cv a.1.1.length):f200 a=some (((bif fY a.1.1 then jh a.1.1 else []),()),()):=by
 obtain⟨⟨s,u⟩,b7⟩:=a;have hs:s.length<=2097152:=hs;have e1:=EF ((s,()),()) hs;have e2:=abt ((s,((47:Int),())),()) hs rfl;simp only[f200,e1,Option.bind_some,f233,e2];cases fY s with
 |false=>rfl
 |true=>
  simp only[Bool.not_true,cond_false,cond_true];unfold jh;cases hl:kZ 47 s s.length with
  |none=>
   have:gz (-1) 0=0:=by decide
   simp only[this];have:=hU (xs:=s) (b:=0) (Nat.zero_le _);have this:bw s 0 0=some (s.take 0):=this;rw[this];rfl
  |some i=>
   have hi:=(MO hl).2;have:gz (i:Int) 0=(i:Int):=by unfold gz;rw[if_neg (by omega)]
   simp only[this];rw[hU (by omega)];rfl
def b8(t:List aC)(p:F):Nat:=(t.takeWhile fun e=>Op.bytesLess e.path p).length
def jZ(t:List aC)(p:F):Bool:=match t[b8 t p]? with
 |some e=>e.path==p
 |none=>false
def ko(t:List aC)(p:F):Bool:=p==[]||match t[b8 t p]? with
 |some e=>e.path==p&&e.kind==1
 |none=>false
theorem rY(t:List aC)(p:F):b8 t p<=t.length:=(List.takeWhile_prefix _).length_le
theorem Rs(a)(hs:cv a.1.1.length):f194 a=some (((b8 a.1.1 a.1.2.1:Int),(jZ a.1.1 a.1.2.1,())),()):=by
 obtain⟨⟨t,p,u⟩,b7⟩:=a;have hs:t.length<=2097152:=hs;have key:Gz ((t,(p,((0:Int),(false,((0:Int),()))))),())=_:=Ee zK t (fun i (_:Unit)=>((t,(p,((0:Int),(false,((i:Int),()))))),()))
  (fun i e _=>some (bif Op.bytesLess e.path p then .inl () else .inr ((((t,(p,((0:Int),(false,((i:Int),()))))),())):aw rW))) (fun _=>((t,(p,((0:Int),(false,((t.length:Int),()))))),())) (fun i e s he=>?_) (fun s=>?_) ()
 ·have fold:∀(r:List aC) (k:Nat),k+r.length=t.length->eA (fun i (e:aC) (_:Unit)=>some (bif Op.bytesLess e.path p then .inl () else .inr ((((t,(p,((0:Int),(false,((i:Int),()))))),())):aw rW))) (fun _=>(((t,(p,((0:Int),(false,((t.length:Int),()))))),()):aw rW)) k r ()=
    some ((t,(p,((0:Int),(false,(((k+(r.takeWhile fun e=>Op.bytesLess e.path p).length:Nat):Int),()))))),()):=by
   intro r;induction r with
   |nil=>intro k hk;simp only[eA,List.takeWhile_nil,List.length_nil,Nat.add_zero] at hk ⊢;rw[hk]
   |cons e r ih=>
    intro k hk;simp only[eA,List.takeWhile_cons];cases hl:Op.bytesLess e.path p with
    |false=>rfl
    |true=>
     simp only[cond_true,if_true,List.length_cons];rw[ih (k+1) (by simp only[List.length_cons] at hk;omega)]
     have:k+1+(r.takeWhile fun e=>Op.bytesLess e.path p).length=k+((r.takeWhile fun e=>Op.bytesLess e.path p).length+1):=by omega
     rw[this]
  rw[fold t 0 (Nat.zero_add _),Nat.zero_add] at key;have hk:(t.takeWhile fun e=>Op.bytesLess e.path p).length=b8 t p:=rfl
  rw[hk] at key;simp only[f194,key,Option.bind_some,jZ,bQ];cases aq:t[b8 t p]? with
  |none=>
   have:=List.getElem?_eq_none_iff.1 aq;have:decide ((b8 t p:Int)<(t.length:Int))=false:=by simp only[decide_eq_false_iff_not];omega
   rw[this];rfl
  |some e=>rw[bZ (ct aq)];rfl
 ·have hi:=ct he;have hw:am i:=by unfold am;omega
  simp only[zK,bZ hi,cond_true,bQ,he,Option.bind_some,bK hw];cases Op.bytesLess e.path p<;>rfl
 ·simp only[zK,cX,cond_false]
theorem ahu(a)(hs:cv a.1.1.length):f144 a=some ((ko a.1.1 a.1.2.1,()),()):=by
 obtain⟨⟨t,p,u⟩,b7⟩:=a;have e1:=Rs ((t,(p,())),()) hs;simp only[f144,e1,Option.bind_some,ko,jZ,bQ];cases (p==[]) with
 |true=>rfl
 |false=>
  cases aq:t[b8 t p]? with
  |none=>rfl
  |some e=>simp only[Bool.not_false,cond_true,Option.bind_some,Bool.false_or];cases (e.path==p)<;>rfl
def gj(t:List aC):Prop:=t.Pairwise fun a b=>Op.bytesLess a.path b.path=true
theorem gj.take{t:List aC}(h:gj t)(i:Nat):gj (t.take i):=List.Pairwise.sublist (List.take_sublist i t) h
theorem lH:∀{t:List aC} {p:F},gj t->∀(h:Nat) (e:aC),t[h]? =some e->Op.bytesLess e.path p=decide (h<b8 t p):=by
 intro t p;induction t with
 |nil=>intro _ h e he;simp at he
 |cons x t ih=>
  intro ha h e he;have fe:=List.pairwise_cons.1 ha;unfold b8;rw[List.takeWhile_cons];cases hx:Op.bytesLess x.path p with
  |true=>
   simp only[if_true,List.length_cons];cases h with
   |zero=>simp only[List.getElem?_cons_zero,Option.some.injEq] at he;subst he;rw[hx];simp
   |succ h=>
    simp only[List.getElem?_cons_succ] at he;rw[ih fe.2 h e he];unfold b8;congr 1;apply propext;omega
  |false=>
   have:(decide (h<(if false=true then x::t.takeWhile (fun e=>Op.bytesLess e.path p) else []).length))=false:=by simp
   rw[this];cases h with
   |zero=>simp only[List.getElem?_cons_zero,Option.some.injEq] at he;subst he;exact hx
   |succ h=>
    simp only[List.getElem?_cons_succ] at he;have h2:=fe.1 e (List.mem_of_getElem? he);cases h3:Op.bytesLess e.path p with
    |false=>rfl
    |true=>have:=uC _ _ _ h2 h3;rw[hx] at this;cases this
def s'(a b:F):Int:=bif Op.bytesLess a b then-1 else bif a==b then 0 else 1
theorem EE(a):f235 a=some ((s' a.1.1.1 a.1.2.1.1,()),()):=by
 obtain⟨⟨⟨p,dX⟩,⟨⟨q,fJ⟩,jp⟩⟩,_s⟩:=a;have h1:(p==p)=true:=by simp
 have h2:(q==q)=true:=by simp
 simp only[f235,f268,f283,Option.bind_some,h1,h2,Bool.not_true,cond_false,s'];cases Op.bytesLess p q<;>cases (p==q)<;>rfl
theorem P1(a b:F):decide (s' a b<0)=Op.bytesLess a b:=by
 unfold s';cases Op.bytesLess a b<;>cases (a==b)<;>rfl
theorem afe(a b:F):(s' a b==0)=(a==b):=by
 unfold s';cases h:Op.bytesLess a b with
 |true=>rw[alY h];rfl
 |false=>cases (a==b)<;>rfl
theorem anj{n:Nat}(h:n<=1099511627776):e9 .u64 (IntKind.u64.wrap (IntKind.i64.wrap (n:Int))) 1=some (((n/2:Nat)):Int):=by
 rw[ee (by omega) (by omega)]
 have:IntKind.u64.wrap (n:Int)=(n:Int):=by
  simp[IntKind.wrap,IntKind.bits,IntKind.signed];omega
 rw[this];unfold e9;rw[if_neg (by decide)]
 congr 1
 show Int.fdiv (n:Int) 2=_;rw[Int.fdiv_eq_ediv_of_nonneg _ (by decide)]
 omega
theorem MV(a)(hs:cv a.1.1.length)(ha:gj a.1.1):f201 a=some (((b8 a.1.1 a.1.2.1:Int),(jZ a.1.1 a.1.2.1,())),()):=by
 obtain⟨⟨t,p,u⟩,b7⟩:=a;have hs:t.length<=2097152:=hs;have Db:=rY t p;have key:∀d i j:Nat,j-i=d->i<=b8 t p->b8 t p<=j->j<=t.length->
   xW ((t,((),((),((0:Int),(false,((t.length:Int),((i:Int),((j:Int),())))))))),((p,((0:Int),((0:Int),(([]:F),())))),()))=
    some (((t,((),((),((0:Int),(false,((t.length:Int),((b8 t p:Int),()))))))),((p,((0:Int),((0:Int),(([]:F),())))),()))):=by
  intro d;induction d using Nat.strongRecOn with
  |_ d ih=>
   intro i j Z hi hj hl;by_cases pc:i<j
   ·have bU:(i+j)/2<t.length:=by omega
    obtain⟨e,he⟩:∃e,t[(i+j)/2]? =some e:=⟨t[(i+j)/2],List.getElem?_eq_getElem bU⟩;have hsh:e9 .u64 (IntKind.u64.wrap (IntKind.i64.wrap ((i:Int)+(j:Int)))) 1=some ((((i+j)/2:Nat)):Int):=by
     rw[<-anj (n:=i+j) (by omega)];rw[Int.natCast_add]
    have YX:IntKind.i64.wrap (((i+j)/2:Nat):Int)=(((i+j)/2:Nat):Int):=ee (by omega) (by omega)
    have nZ:=lH (t:=t) (p:=p) ha ((i+j)/2) e he;cases hb:Op.bytesLess e.path p with
    |true=>
     rw[hb] at nZ;have hlt:(i+j)/2<b8 t p:=by simpa using nZ.symm
     refine(du ?_).trans (ih (j-((i+j)/2+1)) (by omega) ((i+j)/2+1) j rfl (by omega) hj hl)
     simp only[xX,bZ pc,cond_true,hsh,YX,bQ,he,Option.bind_some,EE,P1,hb,bK (i:=(i+j)/2) (by unfold am;omega)]
    |false=>
     rw[hb] at nZ;have hge:¬(i+j)/2<b8 t p:=by simpa using nZ.symm
     refine(du ?_).trans (ih ((i+j)/2-i) (by omega) i ((i+j)/2) rfl hi (by omega) (by omega))
     simp only[xX,bZ pc,cond_true,hsh,YX,bQ,he,Option.bind_some,EE,P1,hb,cond_false]
   ·have jn:i=b8 t p:=by omega
    have hlt:decide ((i:Int)<(j:Int))=false:=by simp only[decide_eq_false_iff_not];omega
    refine ca ?_
    simp only[xX,hlt,cond_false];rw[jn]
 have lz:xW ((t,((),((),((0:Int),(false,((t.length:Int),((0:Int),((t.length:Int),())))))))),((p,((0:Int),((0:Int),(([]:F),())))),()))=_:=key t.length 0 t.length (Nat.sub_zero _) (Nat.zero_le _) Db (Nat.le_refl _);have Y:A_ ((t,((p,((0:Int),((0:Int),(([]:F),())))),((),()))),())=some (((b8 t p:Int),(jZ t p,())),()):=by
  simp only[A_,lz,Option.bind_some,jZ,bQ,EE,afe];cases aq:t[b8 t p]? with
  |none=>
   have:=List.getElem?_eq_none_iff.1 aq;have:decide ((b8 t p:Int)<(t.length:Int))=false:=by simp only[decide_eq_false_iff_not];omega
   rw[this];rfl
  |some e=>rw[bZ (ct aq)];rfl
 simp only[f201,Y,Option.bind_some]
noncomputable abbrev ao1:bg:=[(200,Wm),(201,Jv)]
theorem apT:aW U (bd ah ao1):=bc ⟨amv,z201,⟨⟩⟩
abbrev i153:Shape:=⟨[aH 0 .entry,ap 1],[],27⟩
abbrev UO:Shape:=⟨[ar 4],[],27⟩
noncomputable def f153(a:i153.J):Option UO.J:=
(f200 ((a.1.2.1,()),())).bind fun b=>
 bif(b.1.1==([]:F)) then
 some ((true,()),())
else
(f201 ((a.1.1,b.1.1,()),())).bind fun c=>
 bif c.1.2.1 then
(aP a.1.1 c.1.1).bind fun d=>
 some (((d.kind==(1:Int)),()),())
else
 some ((false,()),())
noncomputable def WL:aF:=aK ah Tryz.f153 i153 UO [] f153
theorem amM:aE U 153 WL:=aL apT Tryz.func153 (by kernel_rfl) af (fun y=>by kernel_rfl) fun a=>by kernel_rfl
noncomputable abbrev apv:bg:=[(152,WM),(153,WL)]
theorem JW:aW U (bd ah apv):=bc ⟨z152,amM,⟨⟩⟩
abbrev Ox:Shape:=⟨[aH 0 .entry,ad 3,aM 4 4 0,aH 8 .entry,ad 9,ad 10],[aO 4 [ae,br,br,ae]],43⟩
abbrev Oc:List aN:=[(.norm,⟨[aH 0 .entry,aH 8 .entry,ad 9,ad 10,b_ 15 [ae,br,br,ae],ar 16,ar 17,ar 18,ar 32,ar 33,ar 41],[],43⟩)]
noncomputable def Ey(y:Ox.J):Option (aw Oc):=
(f152 (((y.2.1.1,y.2.1.2.1,y.2.1.2.2.1,y.2.1.2.2.2.1,()),()),())).bind fun a=>
 bif(!a.1.1) then
 some ((y.1.1,y.1.2.2.2.1,y.1.2.2.2.2.1,y.1.2.2.2.2.2.1,(y.2.1.1,y.2.1.2.1,y.2.1.2.2.1,y.2.1.2.2.2.1,()),a.1.1,(!a.1.1),true,true,true,true,()),())
else
 bif(decide (y.1.2.1>(0:Int))) then
(aP y.1.1 (IntKind.i64.wrap (y.1.2.1-(1:Int)))).bind fun b=>
 bif(!(Op.bytesLess b.path y.2.1.1)) then
 some ((y.1.1,y.1.2.2.2.1,y.1.2.2.2.2.1,y.1.2.2.2.2.2.1,(y.2.1.1,y.2.1.2.1,y.2.1.2.2.1,y.2.1.2.2.2.1,()),a.1.1,(!a.1.1),false,(!(Op.bytesLess b.path y.2.1.1)),true,true,()),())
else
(bw y.1.1 (0:Int) y.1.2.1).bind fun c=>
(f153 ((c,y.2.1.1,()),())).bind fun d=>
 some ((y.1.1,y.1.2.2.2.1,y.1.2.2.2.2.1,y.1.2.2.2.2.2.1,(y.2.1.1,y.2.1.2.1,y.2.1.2.2.1,y.2.1.2.2.2.1,()),a.1.1,(!a.1.1),false,(!(Op.bytesLess b.path y.2.1.1)),false,(!d.1.1),()),())
else
(bw y.1.1 (0:Int) y.1.2.1).bind fun e=>
(f153 ((e,y.2.1.1,()),())).bind fun f=>
 some ((y.1.1,y.1.2.2.2.1,y.1.2.2.2.2.1,y.1.2.2.2.2.2.1,(y.2.1.1,y.2.1.2.1,y.2.1.2.2.1,y.2.1.2.2.2.1,()),a.1.1,(!a.1.1),false,false,false,(!f.1.1),()),())
theorem aeB:aT U (an (c8 (an (codeOf Tryz.f105) 1 58)) 116 7474) (a6 Ox Oc Ey):=cQ JW (by kernel_rfl) af fun y=>by kernel_rfl
abbrev zr:Shape:=⟨[aH 0 .entry,aH 8 .entry,ad 9,ad 10],[],43⟩
abbrev uF:List aN:=[(.ret,⟨[ar 2],[],43⟩),(.exit 0,⟨[],[],43⟩)]
noncomputable def z8(y:zr.J):bJ zr uF:=
 bif(decide (y.1.2.2.2.1<y.1.2.2.1)) then
(aP y.1.2.1 y.1.2.2.2.1).bind fun a=>
(Ey ((y.1.1,y.1.2.2.2.1,(),y.1.2.1,y.1.2.2.1,y.1.2.2.2.1,()),(a.path,a.kind,a.mode,a.text,()),())).bind fun b=>
 bif b.1.2.2.2.2.2.2.2.2.2.2.1 then
 some (.inr (.inl ((false,()),())))
else
 some (.inl ((b.1.1,b.1.2.1,b.1.2.2.1,(IntKind.i64.wrap (b.1.2.2.2.1+(1:Int))),()),()))
else
 some (.inr (.inr ((),())))
noncomputable def GS:zr.J->Option (aw uF):=bn z8
theorem aiy:aT U (an (codeOf Tryz.f105) 1 58) (a6 zr uF GS):=bN JW (by kernel_rfl) (bb aeB af) fun y=>by kernel_rfl
abbrev i105:Shape:=⟨[aH 0 .entry],[],43⟩
abbrev Vk:Shape:=⟨[ar 2],[],43⟩
noncomputable def f105(a:i105.J):Option Vk.J:=
 bif(decide ((a.1.1.length:Int)>(16:Int))) then
 some ((false,()),())
else
(GS ((a.1.1,a.1.1,(a.1.1.length:Int),(0:Int),()),())).bind fun b=>
(match b with
|.inl c=>
 some ((c.1.1,()),())
|.inr d=>
 some ((true,()),()))
noncomputable def vV:aF:=aK ah Tryz.f105 i105 Vk [] f105
theorem z105:aE U 105 vV:=aL JW Tryz.func105 (by kernel_rfl) (bb aiy af) (fun y=>by kernel_rfl) fun a=>by kernel_rfl
noncomputable abbrev atn:bg:=[(143,WQ),(144,WP),(145,WO)]
theorem C2:aW U (bd ah atn):=bc ⟨z143,amN,z145,⟨⟩⟩
abbrev Qx:Shape:=⟨[aH 0 .entry,ad 3],[],53⟩
abbrev Qd:List aN:=[(.norm,⟨[aH 0 .entry,ad 3,aH 11 .entry,ad 12,(13,.ak (.en [.str,.int .i64,.int .i64,.str] 0)),b_ 14 [ae,br,br,ae],ar 15,ar 16,ar 17,ar 34],[],53⟩)]
noncomputable def GZ(y:Qx.J):Option (aw Qd):=
(aP y.1.1 y.1.2.1).bind fun a=>
(f143 (((a.path,a.kind,a.mode,a.text,()),()),())).bind fun b=>
 bif(!b.1.1) then
 some ((y.1.1,y.1.2.1,y.1.1,y.1.2.1,(a.path,a.kind,a.mode,a.text,()),(a.path,a.kind,a.mode,a.text,()),b.1.1,(!b.1.1),true,true,()),())
else
 bif(decide (y.1.2.1>(0:Int))) then
(aP y.1.1 (IntKind.i64.wrap (y.1.2.1-(1:Int)))).bind fun c=>
(aP y.1.1 y.1.2.1).bind fun d=>
 some ((y.1.1,y.1.2.1,y.1.1,y.1.2.1,(a.path,a.kind,a.mode,a.text,()),(a.path,a.kind,a.mode,a.text,()),b.1.1,(!b.1.1),false,(!(Op.bytesLess c.path d.path)),()),())
else
 some ((y.1.1,y.1.2.1,y.1.1,y.1.2.1,(a.path,a.kind,a.mode,a.text,()),(a.path,a.kind,a.mode,a.text,()),b.1.1,(!b.1.1),false,false,()),())
theorem ahE:aT U (an (c8 (an (codeOf Tryz.f90) 1 26)) 52 840) (a6 Qx Qd GZ):=cQ C2 (by kernel_rfl) af fun y=>by kernel_rfl
abbrev At:Shape:=⟨[aH 0 .entry,ad 3],[],53⟩
abbrev Hq:List aN:=[(.ret,⟨[ar 2],[],53⟩),(.exit 0,⟨[aH 0 .entry],[],53⟩)]
noncomputable def AV(y:At.J):bJ At Hq:=
 bif(decide (y.1.2.1<(y.1.1.length:Int))) then
(GZ ((y.1.1,y.1.2.1,()),())).bind fun a=>
 bif a.1.2.2.2.2.2.2.2.2.2.1 then
 some (.inr (.inl ((false,()),())))
else
 some (.inl ((a.1.1,(IntKind.i64.wrap (a.1.2.1+(1:Int))),()),()))
else
 some (.inr (.inr ((y.1.1,()),())))
noncomputable def HS:At.J->Option (aw Hq):=bn AV
theorem ajN:aT U (an (codeOf Tryz.f90) 1 26) (a6 At Hq HS):=bN C2 (by kernel_rfl) (bb ahE af) fun y=>by kernel_rfl
abbrev As:Shape:=⟨[aH 0 .entry,ad 4],[],53⟩
abbrev Hp:List aN:=[(.ret,⟨[ar 2],[],53⟩),(.exit 2,⟨[aH 0 .entry],[],53⟩)]
noncomputable def AU(y:As.J):bJ As Hp:=
 bif(decide (y.1.2.1<(y.1.1.length:Int))) then
(aP y.1.1 y.1.2.1).bind fun a=>
(f145 ((a.path,()),())).bind fun b=>
(f144 ((y.1.1,b.1.1,()),())).bind fun c=>
 bif(!c.1.1) then
 some (.inr (.inl ((false,()),())))
else
 some (.inl ((y.1.1,(IntKind.i64.wrap (y.1.2.1+(1:Int))),()),()))
else
 some (.inr (.inr ((y.1.1,()),())))
noncomputable def HR:As.J->Option (aw Hp):=bn AU
theorem ajM:aT U (an (codeOf Tryz.f90) 1 58) (a6 As Hp HR):=bN C2 (by kernel_rfl) af fun y=>by kernel_rfl
abbrev i90:Shape:=⟨[aH 0 .entry],[],53⟩
abbrev X0:Shape:=⟨[ar 2],[],53⟩
noncomputable def f90(a:i90.J):Option X0.J:=
(HS ((a.1.1,(0:Int),()),())).bind fun b=>
(match b with
|.inl c=>
 some ((c.1.1,()),())
|.inr d=>
(HR ((d.1.1,(0:Int),()),())).bind fun e=>
(match e with
|.inl f=>
 some ((f.1.1,()),())
|.inr g=>
 some (((decide ((g.1.1.length:Int)<=(16:Int))),()),())))
noncomputable def CU:aF:=aK ah Tryz.f90 i90 X0 [] f90
theorem JX:aE U 90 CU:=aL C2 Tryz.func90 (by kernel_rfl) (bb ajN (bb ajM af)) (fun y=>by kernel_rfl) fun a=>by kernel_rfl
theorem acd{ax:Type}{ok lp:Nat->ax->Bool}:∀(xs:List ax) (j:Nat),(∀i x,xs[i]? =some x->ok (j+i) x=lp (j+i) x)->allI ok j xs=allI lp j xs:=by
 intro xs;induction xs with
 |nil=>intro j _;rfl
 |cons x r ih=>
  intro j h;simp only[allI];rw[show ok j x=lp j x from h 0 x rfl,ih (j+1) (fun i y hy=>by have:=h (i+1) y (by simpa using hy);rw[show j+(i+1)=j+1+i by omega] at this;exact this)]
theorem yN{ax:Type}{ok:Nat->ax->Bool}:∀(xs:List ax) (j:Nat),allI ok j xs=true->∀i x,xs[i]? =some x->ok (j+i) x=true:=by
 intro xs;induction xs with
 |nil=>intro j _ i x h;simp at h
 |cons y r ih=>
  intro j h i x hx;simp only[allI,Bool.and_eq_true] at h;cases i with
  |zero=>simp only[List.getElem?_cons_zero,Option.some.injEq] at hx;subst hx;exact h.1
  |succ i=>have:=ih (j+1) h.2 i x (by simpa using hx);rwa[show j+1+i=j+(i+1) by omega] at this
abbrev is(t:List aC):Prop:=cv t.length/\∀e,e∈t->lu e
def u3(t:List aC)(i:Nat)(e:aC):Bool:=i==0||match t[i-1]? with
 |some q=>Op.bytesLess q.path e.path
 |none=>false
def iG(t:List aC)(i:Nat)(e:aC):Bool:=eK e&&u3 t i e
def dJ(t:List aC):Bool:=allI (iG t) 0 t&&t.all (fun e=>ko t (jh e.path))&&decide (t.length<=16)
theorem B2(i:Nat):decide ((i:Int)>0)=!(i==0):=by
 cases i with
 |zero=>rfl
 |succ i=>simp
theorem x9(a)(hs:is a.1.1):f90 a=some ((dJ a.1.1,()),()):=by
 obtain⟨⟨t,u⟩,b7⟩:=a;obtain⟨hl,he⟩:=hs;have hl:t.length<=2097152:=hl;have key:HS ((t,((0:Int),())),())=some (bif allI (iG t) 0 t then .inr ((t,()),()) else .inl ((false,()),())):=by
  refine fl AV t (fun i=>((t,((i:Int),())),())) _ _ _ (fun i x hx=>?_) ?_
  ·have hi:=ct hx;have hw:am i:=by unfold am;omega
   have hb:=he x (List.mem_of_getElem? hx);simp only[AV,bZ hi,cond_true,GZ,bQ,hx,Option.bind_some];rw[adD _ hb.1 hb.2];simp only[Option.bind_some,iG,B2];cases eK x with
   |false=>rfl
   |true=>
    simp only[Bool.not_true,cond_false,Bool.true_and,u3];cases i with
    |zero=>simp only[beq_self_eq_true,Bool.not_true,cond_false,Option.bind_some,Bool.true_or,cond_true,bK hw]
    |succ i=>
     have h0:(i+1==0)=false:=rfl;have jn:i<t.length:=by omega
     obtain⟨q,au⟩:∃q,t[i]? =some q:=⟨t[i],List.getElem?_eq_getElem jn⟩;simp only[h0,Bool.not_false,cond_true,uk (i:=i) (by unfold am;omega),bQ,au,hx,Option.bind_some,Bool.false_or,Nat.add_sub_cancel]
     cases Op.bytesLess q.path x.path with
     |false=>rfl
     |true=>simp only[Bool.not_true,cond_false,cond_true,bK hw]
  ·simp only[AV,cX,cond_false]
 have Vq:HR ((t,((0:Int),())),())=some (bif allI (fun _ e=>ko t (jh e.path)) 0 t then .inr ((t,()),()) else .inl ((false,()),())):=by
  refine fl AU t (fun i=>((t,((i:Int),())),())) _ _ _ (fun i x hx=>?_) ?_
  ·have hi:=ct hx;have hw:am i:=by unfold am;omega
   have hb:=he x (List.mem_of_getElem? hx);simp only[AU,bZ hi,cond_true,bQ,hx,Option.bind_some];rw[ajs _ hb.1];simp only[Option.bind_some];rw[ahu _ hl];simp only[Option.bind_some,bK hw];cases ko t (jh x.path)<;>rfl
  ·simp only[AU,cX,cond_false]
 rw[fX] at Vq;simp only[f90,key,Option.bind_some,dJ];cases allI (iG t) 0 t with
 |false=>rfl
 |true=>
  simp only[cond_true,Vq,Option.bind_some,Bool.true_and];cases List.all t (fun e=>ko t (jh e.path)) with
  |false=>rfl
  |true=>have:=BT t.length 16;simp only[cond_true,Bool.true_and];rw[<-this];rfl
theorem P5{t:List aC}{i:Nat}{e:aC}(he:t[i]? =some e)(h:gj (t.take i))(hl:u3 t i e=true):gj (t.take (i+1)):=by
 rw[List.take_add_one,he];unfold gj;refine List.pairwise_append.2 ⟨h,by simp,?_⟩
 intro a ha b hb;have hb:b=e:=by simpa using hb
 subst hb;obtain⟨k,hk⟩:=List.mem_iff_getElem?.1 ha;have CK:k<i:=by
  have:=ct hk;rw[List.length_take] at this;omega
 unfold u3 at hl;have h0:(i==0)=false:=by simp;omega
 rw[h0,Bool.false_or] at hl;split at hl
 ·rename_i q au;by_cases hkl:k=i-1
  ·have:t[k]? =some a:=by rw[List.getElem?_take,if_pos CK] at hk;exact hk
   rw[hkl,au] at this;cases this;exact hl
  ·have nY:(t.take i)[i-1]? =some q:=by rw[List.getElem?_take,if_pos (by omega)];exact au
   have:=List.pairwise_iff_getElem.1 h k (i-1) (ct hk) (ct nY) (by omega)
   rw[(List.getElem?_eq_some_iff.1 hk).2,(List.getElem?_eq_some_iff.1 nY).2] at this;exact uC _ _ _ this hl
 ·cases hl
theorem Su{t:List aC}(h:allI (iG t) 0 t=true):gj t:=by
 have:∀i,i<=t.length->gj (t.take i):=by
  intro i;induction i with
  |zero=>intro _;simp[gj]
  |succ i ih=>
   intro hi;have he:t[i]? =some t[i]:=List.getElem?_eq_getElem hi;have:=yN t 0 h i _ he;rw[Nat.zero_add] at this;simp only[iG,Bool.and_eq_true] at this;exact P5 he (ih (by omega)) this.2
 have:=this t.length (Nat.le_refl _);rwa[List.take_length] at this
theorem ac9{t:List aC}{i:Nat}{e:aC}{p:F}(ha:gj t)(he:t[i]? =some e)(hp:Op.bytesLess p e.path=true):ko (t.take i) p=ko t p:=by
 have hi:=ct he;have h1:=lH (p:=p) ha i e he;rw[ai3 hp] at h1;have hle:b8 t p<=i:=by
  have:¬i<b8 t p:=by simpa using h1.symm
  omega
 have mI:b8 (t.take i) p=b8 t p:=by
  by_cases hlt:b8 t p=i
  ·have hlen:(t.take i).length=i:=by rw[List.length_take];omega
   have h2:=rY (t.take i) p;rw[hlen] at h2;by_cases h3:b8 (t.take i) p<i
   ·obtain⟨q,au⟩:∃q,(t.take i)[b8 (t.take i) p]? =some q:=⟨_,List.getElem?_eq_getElem (by rw[hlen];exact h3)⟩
    have ay:=lH (p:=p) (ha.take i) _ q au;have nY:t[b8 (t.take i) p]? =some q:=by rw[List.getElem?_take,if_pos h3] at au;exact au
    have bo:=lH (p:=p) ha _ q nY;rw[ay] at bo;have:decide (b8 (t.take i) p<b8 (t.take i) p)=false:=by simp
    rw[this] at bo;have:¬b8 (t.take i) p<b8 t p:=by simpa using bo.symm
    omega
   ·omega
  ·have hlt:b8 t p<i:=by omega
   obtain⟨q,au⟩:∃q,t[b8 t p]? =some q:=⟨_,List.getElem?_eq_getElem (by omega)⟩
   have nY:(t.take i)[b8 t p]? =some q:=by rw[List.getElem?_take,if_pos hlt];exact au
   have ay:=lH (p:=p) ha _ q au;have bo:=lH (p:=p) (ha.take i) _ q nY;have da:decide (b8 t p<b8 t p)=false:=by simp
   rw[ay,da] at bo;have cc:¬b8 t p<b8 (t.take i) p:=by simpa using bo.symm
   by_cases iy:b8 (t.take i) p<b8 t p
   ·obtain⟨r,hr⟩:∃r,t[b8 (t.take i) p]? =some r:=⟨_,List.getElem?_eq_getElem (by omega)⟩
    have dp:(t.take i)[b8 (t.take i) p]? =some r:=by rw[List.getElem?_take,if_pos (by omega)];exact hr
    have h8:=lH (p:=p) ha _ r hr;have hQ:=lH (p:=p) (ha.take i) _ r dp;have L0:decide (b8 (t.take i) p<b8 (t.take i) p)=false:=by simp
    rw[h8,L0] at hQ;have:¬b8 (t.take i) p<b8 t p:=by simpa using hQ
    omega
   ·omega
 unfold ko;rw[mI];congr 1
 by_cases hlt:b8 t p<i
 ·rw[List.getElem?_take,if_pos hlt]
 ·have:b8 t p=i:=by omega
  rw[this,he,List.getElem?_take,if_neg (by omega)]
  have:(e.path==p)=false:=by
   cases h:(e.path==p) with
   |false=>rfl
   |true=>rw[eq_of_beq h,Bf] at hp;cases hp
  simp[this]
def k4(t:List aC)(p:F):Bool:=ko t (bif fY p then jh p else [])
theorem aas(a)(hs:cv a.1.1.length)(hp:cv a.1.2.1.length)(ha:gj a.1.1):f153 a=some ((k4 a.1.1 a.1.2.1,()),()):=by
 obtain⟨⟨t,p,u⟩,b7⟩:=a;have e1:=afG ((p,()),()) hp;have e2:=MV ((t,((bif fY p then jh p else []),())),()) hs ha
 simp only[f153,e1,e2,Option.bind_some,k4,ko,jZ,bQ];generalize(bif fY p then jh p else [])=up
 cases (up==[]) with
 |true=>rfl
 |false=>
  cases aq:t[b8 t up]? with
  |none=>rfl
  |some e=>simp only[cond_false,cond_true,Option.bind_some,Bool.false_or];cases (e.path==up)<;>rfl
theorem adV(t:List aC):dJ t=(decide (t.length<=16)&&allI (fun i e=>iG t i e&&k4 (t.take i) e.path) 0 t):=by
 unfold dJ;rw[yO];cases h:allI (iG t) 0 t with
 |false=>simp
 |true=>
  have ha:=Su h;have:allI (fun i e=>k4 (t.take i) e.path) 0 t=t.all (fun e=>ko t (jh e.path)):=by
   rw[<-fX _ 0 t];refine acd t 0 (fun i e he=>?_)
   rw[Nat.zero_add];have fy:=yN t 0 h i e he;rw[Nat.zero_add] at fy;have arV:fY e.path=true:=by
    unfold iG eK at fy;simp only[Bool.and_eq_true] at fy;exact fy.1.1
   unfold k4;rw[arV,cond_true];cases hu:(jh e.path==[]) with
   |true=>unfold ko;rw[hu];rfl
   |false=>exact ac9 ha he (afK hu)
  rw[this];simp only[Bool.true_and];rw[Bool.and_comm]
theorem py(a)(hs:is a.1.1):f105 a=some ((dJ a.1.1,()),()):=by
 obtain⟨⟨t,u⟩,b7⟩:=a;obtain⟨hl,he⟩:=hs;have hl:t.length<=2097152:=hl;have key:GS ((t,(t,((t.length:Int),((0:Int),())))),())=some (bif allI (fun i e=>iG t i e&&k4 (t.take i) e.path) 0 t then .inr ((),()) else .inl ((false,()),())):=by
  have:=k1 z8 t (fun i (_:Unit)=>((t,(t,((t.length:Int),((i:Int),())))),())) (fun i e _=>some (bif iG t i e&&k4 (t.take i) e.path then .inl () else .inr ((.inl ((false,()),())):aw uF))) (fun _=>(.inr ((),()):aw uF))
   (fun i _=>gj (t.take i)) () (by simp[gj]) (fun i x _ hx dk=>?_) (fun _ _=>?_)
  ·exact this.trans (xo (fun i e=>iG t i e&&k4 (t.take i) e.path) (fun _ s=>s) _ _ t 0 ())
  ·have hi:=ct hx;have hw:am i:=by unfold am;omega
   have hb:=he x (List.mem_of_getElem? hx);refine⟨?_,fun aD ai=>?_⟩
   ·have o_:=aas ((t.take i,(x.path,())),()) (show(t.take i).length<=2097152 by rw[List.length_take];omega) hb.1 dk
    simp only[z8,bZ hi,cond_true,bQ,hx,Option.bind_some,Ey];rw[adM _ hb.1 hb.2];simp only[Option.bind_some,iG,B2];cases eK x with
    |false=>rfl
    |true=>
     simp only[Bool.not_true,cond_false,Bool.true_and,u3];cases i with
     |zero=>
      have d':bw t 0 0=some (t.take 0):=hU (b:=0) (Nat.zero_le _);have d':bw t 0 ((0:Nat):Int)=some (t.take 0):=d';simp only[beq_self_eq_true,Bool.not_true,cond_false,d',Option.bind_some,o_,Bool.true_or,Bool.true_and];cases k4 (t.take 0) x.path with
      |false=>rfl
      |true=>simp only[Bool.not_true,cond_false,cond_true,bK hw];rfl
     |succ i=>
      have h0:(i+1==0)=false:=rfl;have jn:i<t.length:=by omega
      obtain⟨q,au⟩:∃q,t[i]? =some q:=⟨t[i],List.getElem?_eq_getElem jn⟩;have d':bw t 0 ((i+1:Nat):Int)=some (t.take (i+1)):=hU (by omega)
      simp only[h0,Bool.not_false,cond_true,uk (i:=i) (by unfold am;omega),bQ,au,hx,Option.bind_some,Bool.false_or,Nat.add_sub_cancel]
      cases Op.bytesLess q.path x.path with
      |false=>rfl
      |true=>
       simp only[Bool.not_true,cond_false,cond_true,d',Option.bind_some,o_,Bool.true_and];cases k4 (t.take (i+1)) x.path with
       |false=>rfl
       |true=>simp only[Bool.not_true,cond_false,cond_true,bK hw];rfl
   ·simp only[Option.some.injEq] at ai;cases au:(iG t i x&&k4 (t.take i) x.path) with
    |false=>rw[au] at ai;cases ai
    |true=>
     simp only[Bool.and_eq_true] at au;have:=au.1;simp only[iG,Bool.and_eq_true] at this;exact P5 hx dk this.2
  ·simp only[z8,cX,cond_false]
 have wM:decide ((t.length:Int)>16)=!decide (t.length<=16):=by by_cases h:t.length<=16<;>simp only[h,decide_true,decide_false,Bool.not_true,Bool.not_false,decide_eq_true_eq,decide_eq_false_iff_not]<;>omega
 simp only[f105,wM,key,Option.bind_some];rw[adV];cases decide (t.length<=16)<;>cases allI (fun i e=>iG t i e&&k4 (t.take i) e.path) 0 t<;>rfl
abbrev i202:Shape:=⟨[aH 0 .entry],[],6⟩
abbrev Ul:Shape:=⟨[bf 2 3000128],[be 3000128 .entry 2 0],6⟩
noncomputable def f202(a:i202.J):Option Ul.J:=
(cy 48 ([]:List aC) a.1.1).bind fun b=>
 some (((),()),b,())
noncomputable def Wl:aF:=aK ah Tryz.f202 i202 Ul [] f202
theorem amu:aE U 202 Wl:=aL g0 Tryz.func202 (by kernel_rfl) af (fun y=>by kernel_rfl) fun a=>by kernel_rfl
noncomputable abbrev ao0:bg:=[(90,CU),(194,Jx),(202,Wl)]
theorem JQ:aW U (bd ah ao0):=bc ⟨JX,z194,amu,⟨⟩⟩
abbrev Oo:Shape:=⟨[aH 1 .entry,bf 6 3000384,ad 7,ad 8,ar 9],[be 3000384 .entry 6 0],69⟩
abbrev N8:List aN:=[(.norm,⟨[aH 1 .entry,bf 6 3000384,ad 7,ad 8,ar 9,ar 28,ar 29,ar 47],[be 3000384 .entry 6 0],69⟩)]
noncomputable def Eu(y:Oo.J):Option (aw N8):=
 bif y.1.2.2.2.2.1 then
(a_ y.2.1.length y.1.2.2.2.1).bind fun a=>
(y.2.1[a]?).bind fun b=>
 bif(b.kind !=(1:Int)) then
 some ((y.1.1,(),y.1.2.2.1,y.1.2.2.2.1,y.1.2.2.2.2.1,y.1.2.2.2.2.1,true,true,()),y.2.1,())
else
(aP y.1.1 y.1.2.2.1).bind fun c=>
(a_ y.2.1.length y.1.2.2.2.1).bind fun d=>
(y.2.1[d]?).bind fun e=>
 some ((y.1.1,(),y.1.2.2.1,y.1.2.2.2.1,y.1.2.2.2.2.1,y.1.2.2.2.2.1,true,(!((c.path==e.path)&&((c.kind==e.kind)&&((c.mode==e.mode)&&(c.text==e.text))))),()),y.2.1,())
else
 some ((y.1.1,(),y.1.2.2.1,y.1.2.2.2.1,y.1.2.2.2.2.1,y.1.2.2.2.2.1,false,false,()),y.2.1,())
theorem aeq:aT U (an (c8 (an (codeOf Tryz.f159) 1 58)) 116 7460) (a6 Oo N8 Eu):=cQ JQ (by kernel_rfl) af fun y=>by kernel_rfl
abbrev uG:Shape:=⟨[aH 1 .entry,bf 6 3000384,ad 7],[be 3000384 .entry 6 0],69⟩
abbrev ot:List aN:=[(.ret,⟨[bf 4 3000256,ar 5],[be 3000256 .entry 4 0],69⟩),(.exit 0,⟨[bf 6 3000384],[be 3000384 .entry 6 0],69⟩)]
noncomputable def zQ(y:uG.J):bJ uG ot:=
 bif(decide (y.1.2.2.1<(y.1.1.length:Int))) then
(aP y.1.1 y.1.2.2.1).bind fun a=>
(f194 ((y.2.1,a.path,()),())).bind fun b=>
(Eu ((y.1.1,(),y.1.2.2.1,b.1.1,b.1.2.1,()),y.2.1,())).bind fun c=>
 bif c.1.2.2.2.2.2.2.2.1 then
 some (.inr (.inl (((),false,()),([]:List aC),())))
else
 bif(!c.1.2.2.2.2.1) then
(bw c.2.1 (0:Int) c.1.2.2.2.1).bind fun d=>
(cy 48 ([]:List aC) d).bind fun e=>
(aP c.1.1 c.1.2.2.1).bind fun f=>
(cy 48 e ([f]:List aC)).bind fun g=>
(bw c.2.1 c.1.2.2.2.1 (c.2.1.length:Int)).bind fun h=>
(cy 48 g h).bind fun i=>
 some (.inl ((c.1.1,(),(IntKind.i64.wrap (c.1.2.2.1+(1:Int))),()),i,()))
else
 some (.inl ((c.1.1,(),(IntKind.i64.wrap (c.1.2.2.1+(1:Int))),()),c.2.1,()))
else
 some (.inr (.inr (((),()),y.2.1,())))
noncomputable def GD:uG.J->Option (aw ot):=bn zQ
theorem aie:aT U (an (codeOf Tryz.f159) 1 58) (a6 uG ot GD):=bN JQ (by kernel_rfl) (bb aeq af) fun y=>by kernel_rfl
abbrev i159:Shape:=⟨[aH 0 .entry,aH 1 .entry],[],69⟩
abbrev UN:Shape:=⟨[bf 4 3000256,ar 5],[be 3000256 .entry 4 0],69⟩
noncomputable def f159(a:i159.J):Option UN.J:=
(f202 ((a.1.1,()),())).bind fun b=>
(GD ((a.1.2.1,(),(0:Int),()),b.2.1,())).bind fun c=>
(match c with
|.inl d=>
 some (((),d.1.2.1,()),d.2.1,())
|.inr e=>
(f90 ((e.2.1,()),())).bind fun f=>
 some (((),f.1.1,()),e.2.1,()))
noncomputable def WK:aF:=aK ah Tryz.f159 i159 UN [] f159
theorem z159:aE U 159 WK:=aL JQ Tryz.func159 (by kernel_rfl) (bb aie af) (fun y=>by kernel_rfl) fun a=>by kernel_rfl
noncomputable abbrev atH:bg:=[(87,Ln),(88,Lm),(89,Zz),(90,CU)]
theorem aui:aW U (bd ah atH):=bc ⟨z87,XG,aqa,JX,⟨⟩⟩
abbrev i50:Shape:=⟨[b_ 0 [ae,ae,b6 .need,b6 .entry]],[],23⟩
abbrev Ym:Shape:=⟨[ar 2],[],23⟩
noncomputable def f50(a:i50.J):Option Ym.J:=
(f87 ((a.1.1.1,()),())).bind fun b=>
 bif b.1.1 then
(f88 ((a.1.1.2.1,()),())).bind fun c=>
 bif c.1.1 then
(f89 ((a.1.1.1,a.1.1.2.2.1,()),())).bind fun d=>
 bif d.1.1 then
(f90 ((a.1.1.2.2.2.1,()),())).bind fun e=>
 some ((e.1.1,()),())
else
 some ((false,()),())
else
 some ((false,()),())
else
 some ((false,()),())
noncomputable def CZ:aF:=aK ah Tryz.f50 i50 Ym [] f50
theorem J1:aE U 50 CZ:=aL aui Tryz.func50 (by kernel_rfl) af (fun y=>by kernel_rfl) fun a=>by kernel_rfl
noncomputable abbrev atD:bg:=[(99,Lj),(100,B_),(101,SF),(103,SE),(105,vV)]
theorem _f:aW U (bd ah atD):=bc ⟨XE,IC,ajo,ajn,z105,⟨⟩⟩
abbrev RH:Shape:=⟨[aM 1 1 0],[aO 1 [ae,ae,b6 .need,b6 .entry]],36⟩
abbrev Ry:List aN:=[(.norm,⟨[aM 1 1 0,ar 18],[aO 1 [ae,ae,b6 .need,b6 .entry]],36⟩)]
noncomputable def H'(y:RH.J):Option (aw Ry):=
(f99 ((y.2.1.1,()),())).bind fun a=>
 bif(!(!a.1.1)) then
(f100 ((y.2.1.2.1,()),())).bind fun b=>
 bif(!(!b.1.1)) then
 some (((),(decide ((y.2.1.2.2.1.length:Int)>(6:Int))),()),(y.2.1.1,y.2.1.2.1,y.2.1.2.2.1,y.2.1.2.2.2.1,()),())
else
 some (((),true,()),(y.2.1.1,y.2.1.2.1,y.2.1.2.2.1,y.2.1.2.2.2.1,()),())
else
 some (((),true,()),(y.2.1.1,y.2.1.2.1,y.2.1.2.2.1,y.2.1.2.2.2.1,()),())
theorem ajZ:aT U (an (codeOf Tryz.f55) 1 12) (a6 RH Ry H'):=cQ _f (by kernel_rfl) af fun y=>by kernel_rfl
abbrev i55:Shape:=⟨[b_ 0 [ae,ae,b6 .need,b6 .entry]],[],36⟩
abbrev Yi:Shape:=⟨[ar 2],[],36⟩
noncomputable def f55(a:i55.J):Option Yi.J:=
(H' (((),()),(a.1.1.1,a.1.1.2.1,a.1.1.2.2.1,a.1.1.2.2.2.1,()),())).bind fun b=>
 bif b.1.2.1 then
 some ((false,()),())
else
(Bc ((b.2.1.2.2.1,(),()),())).bind fun c=>
 bif c.1.1 then
(Bb ((b.2.1.2.2.1,(),([b.2.1.1]:List F),()),())).bind fun d=>
 bif(!d.1.1) then
(f105 ((b.2.1.2.2.2.1,()),())).bind fun e=>
 some ((e.1.1,()),())
else
 some ((false,()),())
else
 some ((false,()),())
noncomputable def CY:aF:=aK ah Tryz.f55 i55 Yi [] f55
theorem J0:aE U 55 CY:=aL _f Tryz.func55 (by kernel_rfl) (bb ajZ af) (fun y=>by kernel_rfl) fun a=>by kernel_rfl
noncomputable abbrev al2:bg:=[(55,CY)]
theorem Ts:aW U (bd ah al2):=bc ⟨J0,⟨⟩⟩
abbrev ye:Shape:=⟨[(1,.ak (.fn 55 [])),aH 7 .pack,ad 8,ad 9],[],18⟩
abbrev EJ:List aN:=[(.ret,⟨[ar 4],[],18⟩),(.exit 0,⟨[],[],18⟩)]
noncomputable def yE(y:ye.J):bJ ye EJ:=
 bif(decide (y.1.2.2.2.1<y.1.2.2.1)) then
(aP y.1.2.1 y.1.2.2.2.1).bind fun a=>
(f55 (((a.name,a.aU,a.bj,a.bL,()),()),())).bind fun b=>
 bif(!b.1.1) then
 some (.inr (.inl ((false,()),())))
else
 some (.inl (((),y.1.2.1,y.1.2.2.1,(IntKind.i64.wrap (y.1.2.2.2.1+(1:Int))),()),()))
else
 some (.inr (.inr ((),())))
noncomputable def E':ye.J->Option (aw EJ):=bn yE
theorem af9:aT U (an (codeOf Tryz.f54) 1 26) (a6 ye EJ E'):=bN Ts (by kernel_rfl) af fun y=>by kernel_rfl
abbrev S':Shape:=⟨[aH 0 .pack,(1,.ak (.fn 55 []))],[],18⟩
abbrev S0:Shape:=⟨[ar 4],[],18⟩
noncomputable def sS(a:S'.J):Option S0.J:=
(E' (((),a.1.1,(a.1.1.length:Int),(0:Int),()),())).bind fun b=>
(match b with
|.inl c=>
 some ((c.1.1,()),())
|.inr d=>
 some ((true,()),()))
noncomputable def Iy:aF:=aK ah Tryz.f54 S' S0 [] sS
theorem SM:aE U 54 Iy:=aL Ts Tryz.func54 (by kernel_rfl) (bb af9 af) (fun y=>by kernel_rfl) fun a=>by kernel_rfl
abbrev AB:Shape:=⟨[aH 0 .pack,ad 3],[],22⟩
abbrev Hy:List aN:=[(.ret,⟨[ar 2],[],22⟩),(.exit 0,⟨[],[],22⟩)]
noncomputable def A3(y:AB.J):bJ AB Hy:=
 bif(decide (y.1.2.1<(y.1.1.length:Int))) then
(aP y.1.1 (IntKind.i64.wrap (y.1.2.1-(1:Int)))).bind fun a=>
(aP y.1.1 y.1.2.1).bind fun b=>
 bif(!(Op.bytesLess a.name b.name)) then
 some (.inr (.inl ((false,()),())))
else
 some (.inl ((y.1.1,(IntKind.i64.wrap (y.1.2.1+(1:Int))),()),()))
else
 some (.inr (.inr ((),())))
noncomputable def H0:AB.J->Option (aw Hy):=bn A3
theorem ajY:aT U (an (codeOf Tryz.f56) 1 26) (a6 AB Hy H0):=bN g0 (by kernel_rfl) af fun y=>by kernel_rfl
abbrev i56:Shape:=⟨[aH 0 .pack],[],22⟩
abbrev Yh:Shape:=⟨[ar 2],[],22⟩
noncomputable def f56(a:i56.J):Option Yh.J:=
(H0 ((a.1.1,(1:Int),()),())).bind fun b=>
(match b with
|.inl c=>
 some ((c.1.1,()),())
|.inr d=>
 some ((true,()),()))
noncomputable def Lo:aF:=aK ah Tryz.f56 i56 Yh [] f56
theorem XH:aE U 56 Lo:=aL g0 Tryz.func56 (by kernel_rfl) (bb ajY af) (fun y=>by kernel_rfl) fun a=>by kernel_rfl
abbrev ka(p:ba):Prop:=cv p.name.length/\cv p.aU.length/\tc p.bj/\is p.bL
abbrev ir(ps:List ba):Prop:=cv ps.length/\∀p,p∈ps->ka p
def cu(p:ba):Bool:=iA p.name&&dZ p.aU&&pW p.name p.bj&&dJ p.bL
theorem x_(a)(hb:ka ⟨a.1.1.1,a.1.1.2.1,a.1.1.2.2.1,a.1.1.2.2.2.1⟩):f50 a=some ((cu ⟨a.1.1.1,a.1.1.2.1,a.1.1.2.2.1,a.1.1.2.2.2.1⟩,()),()):=by
 obtain⟨⟨⟨n,v,ns,t,u⟩,b7⟩,ln⟩:=a;obtain⟨h1,h2,h3,ay⟩:=hb;have h1:n.length<=2097152:=h1;have e1:=O8 ((n,()),()) (show n.length<=1099511627776 by omega)
 have e2:=MW ((v,()),()) h2;have bz:=ady ((n,(ns,())),()) h3 h1;have da:=x9 ((t,()),()) ay;simp only[f50,e1,e2,bz,da,Option.bind_some,cu];cases iA n<;>cases dZ v<;>cases pW n ns<;>rfl
theorem xF(a)(hb:ka ⟨a.1.1.1,a.1.1.2.1,a.1.1.2.2.1,a.1.1.2.2.2.1⟩):f55 a=some ((cu ⟨a.1.1.1,a.1.1.2.1,a.1.1.2.2.1,a.1.1.2.2.2.1⟩,()),()):=by
 obtain⟨⟨⟨n,v,ns,t,u⟩,b7⟩,ln⟩:=a;obtain⟨h1,h2,h3,ay⟩:=hb;have h1:n.length<=2097152:=h1;have e1:=MH ((n,()),()) (show n.length<=1099511627776 by omega)
 have e2:=Dr ((v,()),()) h2;have bz:=adN ((ns,((),())),()) h3;have da:=py ((t,()),()) ay;have gp:=aaM ((ns,((),(([n]:List F),()))),()) h3 (Nat.le_refl _);have cc:decide ((ns.length:Int)>6)=!decide (ns.length<=6):=by by_cases h:ns.length<=6<;>simp only[h,decide_true,decide_false,Bool.not_true,Bool.not_false,decide_eq_true_eq,decide_eq_false_iff_not]<;>omega
 have Z:gQ [] (n::ns.map (·.name))=gQ [n] (ns.map (·.name)):=by simp[gQ]
 simp only[f55,H',e1,e2,Option.bind_some,cu,pW,Z,cc,Bool.not_not];cases iA n with
 |false=>rfl
 |true=>
  cases dZ v with
  |false=>rfl
  |true=>
   cases decide (ns.length<=6) with
   |false=>simp only[cond_true,Bool.not_false,Option.bind_some,Bool.and_false,Bool.false_and]
   |true=>
    simp only[cond_true,Bool.not_true,cond_false,Option.bind_some,bz,gp,da,Bool.true_and,Bool.and_true];cases List.all ns dv<;>cases gQ [n] (ns.map (·.name))<;>rfl
theorem NY(a)(hs:ir a.1.1):sS a=some ((a.1.1.all cu,()),()):=by
 obtain⟨⟨ps,u⟩,b7⟩:=a;obtain⟨hl,hn⟩:=hs;have hl:ps.length<=2097152:=hl;have key:E' (((),(ps,((ps.length:Int),((0:Int),())))),())=some (bif allI (fun _ n=>cu n) 0 ps then .inr ((),()) else .inl ((false,()),())):=by
  refine fl yE ps (fun i=>(((),(ps,((ps.length:Int),((i:Int),())))),())) _ _ _ (fun i x hx=>?_) ?_
  ·have hi:=ct hx;have hw:am i:=by unfold am;omega
   have hb:=hn x (List.mem_of_getElem? hx);simp only[yE,bZ hi,cond_true,bQ,hx,Option.bind_some];rw[xF _ hb];simp only[Option.bind_some,bK hw];cases cu x<;>rfl
  ·simp only[yE,cX,cond_false]
 rw[fX] at key;simp only[sS,key,Option.bind_some];cases List.all ps cu<;>rfl
def mD(ps:List ba)(i:Nat)(x:ba):Bool:=match ps[i]? with
 |some q=>Op.bytesLess q.name x.name
 |none=>false
def je(ps:List ba):Bool:=allI (mD ps) 0 ps.tail
theorem ME(a)(hs:cv a.1.1.length):f56 a=some ((je a.1.1,()),()):=by
 obtain⟨⟨ps,u⟩,b7⟩:=a;have hs:ps.length<=2097152:=hs;have key:H0 ((ps,((1:Int),())),())=some (bif allI (mD ps) 0 ps.tail then .inr ((),()) else .inl ((false,()),())):=by
  refine fl A3 ps.tail (fun i=>((ps,(((i+1:Nat):Int),())),())) _ _ _ (fun i x hx=>?_) ?_
  ·have qD:ps[i+1]? =some x:=by rw[List.getElem?_tail] at hx;exact hx
   have hi:=ct qD;have hw:am (i+1):=by unfold am;omega
   obtain⟨q,au⟩:∃q,ps[i]? =some q:=⟨ps[i],List.getElem?_eq_getElem (by omega)⟩
   simp only[A3,bZ hi,cond_true,uk (i:=i) (by unfold am;omega),bQ,au,qD,Option.bind_some,bK hw,mD]
   cases Op.bytesLess q.name x.name<;>rfl
  ·have:decide (((ps.tail.length+1:Nat):Int)<(ps.length:Int))=false:=by
    simp only[decide_eq_false_iff_not,List.length_tail];omega
   simp only[A3,this,cond_false]
 simp only[f56,key,Option.bind_some,je];cases allI (mD ps) 0 ps.tail<;>rfl
def mg(a b:aC):Bool:=a.path==b.path&&(a.kind==b.kind&&(a.mode==b.mode&&a.text==b.text))
def nP(e q:aC):Bool:=e.kind !=1||!mg e q
theorem ag1(a b:aC):mg a b=mg b a:=by
 unfold mg;have h1:(a.path==b.path)=(b.path==a.path):=BEq.comm;have h2:(a.kind==b.kind)=(b.kind==a.kind):=BEq.comm;have h3:(a.mode==b.mode)=(b.mode==a.mode):=BEq.comm;have ay:(a.text==b.text)=(b.text==a.text):=BEq.comm;rw[h1,h2,h3,ay]
theorem ai0(e q:aC):nP e q=(q.kind !=1||!mg e q):=by
 unfold nP;cases h:mg e q with
 |false=>simp
 |true=>
  unfold mg at h;simp only[Bool.and_eq_true] at h;rw[show e.kind=q.kind from eq_of_beq h.2.1]
def km(t:List aC)(k:Nat)(e:aC):List aC:=t.take k++[e]++t.drop k
def hD(out:List aC):List aC->Option (List aC)
 |[]=>some out
 |e::r=>match out[b8 out e.path]? with
  |some q=>bif q.path==e.path then(bif nP e q then none else hD out r) else hD (km out (b8 out e.path) e) r
  |none=>hD (km out (b8 out e.path) e) r
theorem ON(t:List aC)(k:Nat)(e:aC)(h:k<=t.length):(km t k e).length=t.length+1:=by
 unfold km;simp only[List.length_append,List.length_take,List.length_cons,List.length_nil,List.length_drop];omega
theorem OM{t:List aC}{k:Nat}{e x:aC}(h:x∈km t k e):x=e\/x∈t:=by
 unfold km at h;rcases List.mem_append.1 h with h|h
 ·rcases List.mem_append.1 h with h|h
  ·exact .inr (List.mem_of_mem_take h)
  ·exact .inl (by simpa using h)
 ·exact .inr (List.mem_of_mem_drop h)
def ij(out:List aC)(e:aC):Option (List aC):=match out[b8 out e.path]? with
 |some q=>bif q.path==e.path then(bif nP e q then none else some out) else some (km out (b8 out e.path) e)
 |none=>some (km out (b8 out e.path) e)
theorem xz(out:List aC)(e:aC)(r:List aC):hD out (e::r)=(ij out e).bind fun B=>hD B r:=by
 unfold ij;rw[hD];cases out[b8 out e.path]? with
 |none=>rfl
 |some q=>
  simp only;cases (q.path==e.path) with
  |false=>rfl
  |true=>cases nP e q<;>rfl
theorem xI{out B:List aC}{e:aC}(h:ij out e=some B):B.length<=out.length+1:=by
 unfold ij at h;split at h
 ·rename_i q au;cases hp:(q.path==e.path) with
  |true=>
   rw[hp] at h;cases hc:nP e q with
   |true=>rw[hc] at h;cases h
   |false=>rw[hc] at h;cases h;omega
  |false=>rw[hp] at h;cases h;rw[ON _ _ _ (rY _ _)];omega
 ·cases h;rw[ON _ _ _ (rY _ _)];omega
theorem D8{out B:List aC}{e x:aC}(h:ij out e=some B)(hx:x∈B):x=e\/x∈out:=by
 unfold ij at h;split at h
 ·rename_i q au;cases hp:(q.path==e.path) with
  |true=>
   rw[hp] at h;cases hc:nP e q with
   |true=>rw[hc] at h;cases h
   |false=>rw[hc] at h;cases h;exact .inr hx
  |false=>rw[hp] at h;cases h;exact OM hx
 ·cases h;exact OM hx
theorem ai7{t:List aC}{e:aC}(ha:gj t)(hn:jZ t e.path=false):gj (km t (b8 t e.path) e):=by
 have VC:∀a,a∈t.take (b8 t e.path)->Op.bytesLess a.path e.path=true:=by
  intro a h;obtain⟨k,hk⟩:=List.mem_iff_getElem?.1 h;have Y5:k<b8 t e.path:=by have:=ct hk;rw[List.length_take] at this;omega
  have wC:t[k]? =some a:=by rw[List.getElem?_take,if_pos Y5] at hk;exact hk
  rw[lH ha k a wC];simpa using Y5
 have Td:∀a,a∈t.drop (b8 t e.path)->Op.bytesLess e.path a.path=true:=by
  intro a h;obtain⟨k,hk⟩:=List.mem_iff_getElem?.1 h;rw[List.getElem?_drop] at hk;have h1:=lH (p:=e.path) ha _ a hk;have h2:Op.bytesLess a.path e.path=false:=by rw[h1];simp
  refine akD _ _ h2 ?_
  cases au:(a.path==e.path) with
  |false=>rfl
  |true=>
   exfalso
   cases k with
   |zero=>
    unfold jZ at hn;rw[Nat.add_zero] at hk;rw[hk] at hn;simp only[au] at hn;cases hn
   |succ k=>
    have hlt:=ct hk;obtain⟨q,KD⟩:∃q,t[b8 t e.path]? =some q:=⟨_,List.getElem?_eq_getElem (by omega)⟩
    have h3:=List.pairwise_iff_getElem.1 ha (b8 t e.path) (b8 t e.path+(k+1)) (ct KD) hlt (by omega)
    rw[(List.getElem?_eq_some_iff.1 KD).2,(List.getElem?_eq_some_iff.1 hk).2] at h3;have ay:=lH (p:=e.path) ha _ q KD;rw[<-eq_of_beq au,h3] at ay;simp at ay
 unfold gj km;refine List.pairwise_append.2 ⟨List.pairwise_append.2 ⟨ha.take _,by simp,?_⟩,List.Pairwise.sublist (List.drop_sublist _ _) ha,?_⟩
 ·intro a h b hb;have hb:b=e:=by simpa using hb
  subst hb;exact VC a h
 ·intro a h b hb;rcases List.mem_append.1 h with h|h
  ·exact uC _ _ _ (VC a h) (Td b hb)
  ·have h:a=e:=by simpa using h
   subst h;exact Td b hb
theorem adY{out B:List aC}{e:aC}(ha:gj out)(h:ij out e=some B):gj B:=by
 unfold ij at h;have hno:∀{b:Bool},jZ out e.path=b->b=false->gj (km out (b8 out e.path) e):=fun h1 h2=>ai7 ha (h1.trans h2)
 split at h
 ·rename_i q au;cases hp:(q.path==e.path) with
  |true=>
   rw[hp] at h;cases hc:nP e q with
   |true=>rw[hc] at h;cases h
   |false=>rw[hc] at h;cases h;exact ha
  |false=>rw[hp] at h;cases h;exact hno (by unfold jZ;rw[au]) hp
 ·rename_i au;cases h;exact hno (by unfold jZ;rw[au]) rfl
theorem afz(a)(ha:is a.1.1)(hb:is a.1.2.1)(hl:a.1.1.length+a.1.2.1.length<=2097152):f159 a=
  some (match hD a.1.1 a.1.2.1 with|some out=>(((),(dJ out,())),(out,()))|none=>(((),(false,())),(([]:List aC),()))):=by
 obtain⟨⟨xs,bh,u⟩,b7⟩:=a;have hl:xs.length+bh.length<=2097152:=hl;have hc:f202 ((xs,()),())=some (((),()),(xs,())):=by
  simp only[f202];rw[dS (by decide) (by unfold am;simp only[List.length_nil];omega)]
  rfl
 have key:GD ((bh,((),((0:Int),()))),(xs,()))=_:=k1 zQ bh (fun i (out:List aC)=>((bh,((),((i:Int),()))),(out,())))
  (fun i e out=>some (match ij out e with|some B=>.inl B|none=>.inr ((.inl (((),(false,())),(([]:List aC),()))):aw ot))) (fun out=>((.inr (((),()),(out,()))):aw ot))
  (fun i out=>out.length<=xs.length+i/\∀e,e∈out->lu e) xs ⟨Nat.le_refl _,ha.2⟩ (fun i x out hx dk=>?_) (fun out _=>?_)
 ·have fold:∀(r:List aC) (k:Nat) (out:List aC),eA (fun i e out=>some (match ij out e with|some B=>.inl B|none=>.inr ((.inl (((),(false,())),(([]:List aC),()))):aw ot))) (fun out=>((.inr (((),()),(out,()))):aw ot)) k r out=
    some (match hD out r with|some B=>.inr (((),()),(B,()))|none=>.inl (((),(false,())),(([]:List aC),()))):=by
   intro r;induction r with
   |nil=>intro k out;rfl
   |cons e r ih=>
    intro k out;rw[xz];simp only[eA];cases ij out e with
    |none=>rfl
    |some B=>simp only[Option.bind_some];exact ih _ _
  have mem:∀(r:List aC) (out B:List aC),(∀e,e∈r->lu e)->(∀e,e∈out->lu e)->hD out r=some B->B.length<=out.length+r.length/\∀e,e∈B->lu e:=by
   intro r;induction r with
   |nil=>intro out B _ h2 h;cases h;exact⟨Nat.le_refl _,h2⟩
   |cons e r ih=>
    intro out B h1 h2 h;rw[xz] at h;obtain⟨o1,h3,ay⟩:=Option.bind_eq_some_iff.1 h;have bo:=ih o1 B (fun x hx=>h1 x (List.mem_cons_of_mem _ hx)) (fun x hx=>by
     rcases D8 h3 hx with rfl|h
     ·exact h1 x List.mem_cons_self
     ·exact h2 x h) ay
    have cc:=xI h3;exact⟨by simp only[List.length_cons];omega,bo.2⟩
  rw[fold] at key;simp only[f159,hc,Option.bind_some,key];cases hj:hD xs bh with
  |none=>rfl
  |some B=>
   have hm:=mem bh xs B hb.2 ha.2 hj;simp only[Option.bind_some];rw[x9 _ ⟨show B.length<=2097152 by omega,hm.2⟩]
   rfl
 ·have hi:=ct hx;have hw:am i:=by unfold am;omega
  refine⟨?_,fun aD ai=>?_⟩
  ·have mb:=Rs ((out,(x.path,())),()) (show out.length<=2097152 by omega)
   have o_:=rY out x.path;simp only[zQ,bZ hi,cond_true,bQ,hx,Option.bind_some,mb,Eu,jZ,ij];have grow:((bw out 0 (b8 out x.path:Int)).bind fun am6=>(cy 48 ([]:List aC) am6).bind fun am5=>(cy 48 am5 ([x]:List aC)).bind fun am4=>(bw out (b8 out x.path:Int) (out.length:Int)).bind fun am3=>(cy 48 am4 am3).bind fun am2=>
     (some (.inl ((bh,((),((IntKind.i64.wrap ((i:Int)+(1:Int))),()))),(am2,()))):Option (Sum uG.J (aw ot))))=some (.inl ((bh,((),(((i+1:Nat):Int),()))),(km out (b8 out x.path) x,()))):=by
    have hlen:(out.take (b8 out x.path)).length<=out.length:=by rw[List.length_take];omega
    have avU:(out.drop (b8 out x.path)).length<=out.length:=by rw[List.length_drop];omega
    rw[hU o_,Option.bind_some,dS (by decide) (by unfold am;simp only[List.length_nil];omega),Option.bind_some,dS (by decide) (by unfold am;simp only[List.length_nil,List.length_cons,List.nil_append];omega),Option.bind_some,gu o_,Option.bind_some,
     dS (by decide) (by unfold am;simp only[List.length_append,List.length_nil,List.length_cons,List.nil_append];omega),Option.bind_some,bK hw]
    rfl
   cases au:out[b8 out x.path]? with
   |none=>simp only[cond_false,Option.bind_some,Bool.not_false,cond_true,bQ,hx];exact grow
   |some q=>
    have hin:=fm (ct au);simp only;cases hp:(q.path==x.path) with
    |false=>simp only[cond_false,Option.bind_some,Bool.not_false,cond_true,bQ,hx];exact grow
    |true=>
     have tC:((x.path==q.path)&&((x.kind==q.kind)&&((x.mode==q.mode)&&(x.text==q.text))))=mg x q:=rfl;rw[ai0];simp only[cond_true,hin,au,Option.bind_some,bQ,hx,tC];cases hk:(q.kind !=1) with
     |true=>rfl
     |false=>
      simp only[cond_false,Option.bind_some,Bool.false_or];cases mg x q with
      |false=>rfl
      |true=>simp only[Bool.not_true,cond_false,Option.bind_some,bK hw];rfl
  ·simp only[Option.some.injEq] at ai;cases hs:ij out x with
   |none=>rw[hs] at ai;cases ai
   |some B=>
    rw[hs] at ai;cases ai;have cc:=xI hs;refine⟨by omega,fun e he=>?_⟩
    rcases D8 hs he with rfl|h
    ·exact hb.2 e (List.mem_of_getElem? hx)
    ·exact dk.2 e h
 ·simp only[zQ,cX,cond_false]
noncomputable abbrev apu:bg:=[(159,WK)]
theorem Xz:aW U (bd ah apu):=bc ⟨z159,⟨⟩⟩
abbrev zq:Shape:=⟨[aH 0 .pack,bf 4 3000256,ad 5],[be 3000256 .entry 4 0],30⟩
abbrev pU:List aN:=[(.ret,⟨[bf 2 3000128,ar 3],[be 3000128 .entry 2 0],30⟩),(.exit 0,⟨[bf 4 3000256],[be 3000256 .entry 4 0],30⟩)]
noncomputable def z7(y:zq.J):bJ zq pU:=
 bif(decide (y.1.2.2.1<(y.1.1.length:Int))) then
(aP y.1.1 y.1.2.2.1).bind fun a=>
(f159 ((y.2.1,a.bL,()),())).bind fun b=>
 bif(!b.1.2.1) then
 some (.inr (.inl (((),false,()),([]:List aC),())))
else
 some (.inl ((y.1.1,(),(IntKind.i64.wrap (y.1.2.2.1+(1:Int))),()),b.2.1,()))
else
 some (.inr (.inr (((),()),y.2.1,())))
noncomputable def GR:zq.J->Option (aw pU):=bn z7
theorem aix:aT U (an (codeOf Tryz.f109) 1 58) (a6 zq pU GR):=bN Xz (by kernel_rfl) af fun y=>by kernel_rfl
abbrev i109:Shape:=⟨[aH 0 .pack],[],30⟩
abbrev Vi:Shape:=⟨[bf 2 3000128,ar 3],[be 3000128 .entry 2 0],30⟩
noncomputable def f109(a:i109.J):Option Vi.J:=
(GR ((a.1.1,(),(0:Int),()),([]:List aC),())).bind fun b=>
(match b with
|.inl c=>
 some (((),c.1.2.1,()),c.2.1,())
|.inr d=>
 some (((),true,()),d.2.1,()))
noncomputable def W':aF:=aK ah Tryz.f109 i109 Vi [] f109
theorem z109:aE U 109 W':=aL Xz Tryz.func109 (by kernel_rfl) (bb aix af) (fun y=>by kernel_rfl) fun a=>by kernel_rfl
abbrev i229:Shape:=⟨[aH 0 .entry],[],8⟩
abbrev IP:Shape:=⟨[bf 2 3000128],[be 3000128 .entry 2 0],8⟩
noncomputable def f229(a:i229.J):Option IP.J:=
 pG (t:=.entry) a.1.1 (some (((),()),([]:List aC),())) ((cy 48 ([]:List aC) a.1.1).bind fun b=>
 some (((),()),b,()))
noncomputable def Wa:aF:=aK ah Tryz.f229 i229 IP [] f229
theorem z229:aE U 229 Wa:=aL g0 Tryz.func229 (by kernel_rfl) af (fun y=>by kernel_rfl) fun a=>by kernel_rfl
theorem aeW(g n c i vb m vc:Nat)(cur vcur:Array Value)(te ve:TypeId)(w:World)(hi:i<n)(hm:0<m)(hroom:n+m<=c)(hc63:c<=9223372036854775807)(hne:vb≠g)
  (hg:w.heap[g]? =some (.cells cur te (0,0))) (hv:w.heap[vb]? =some (.cells vcur ve (0,0))) (hcs:cur.size=c*4) (hvs:m*4<=vcur.size)
  (h1c:∀v∈cur.toList.take (n*4),v.oneCell'=true) (h1v:∀v∈vcur.toList.take (m*4),v.oneCell'=true):
  Calls U 230 #[.slice (some ⟨g,0,none⟩) n c,.int .i64 i,.slice (some ⟨vb,0,none⟩) m vc] w fun e w'=>
   e=.returned (.slice (some ⟨g,0,none⟩) (n+m) c)/\w'=w.drew.setRow g (bG (bG cur.toList ((i+m)*4) ((cur.toList.take (n*4)).drop (i*4))) (i*4) (vcur.toList.take (m*4))).toArray:=by
 have t33:U.underlying 64=some (.slice 178):=by kernel_rfl
 have hsz:(U.info? 178).map (·.size)=some 4:=by kernel_rfl
 have hz1:¬((m:Int)=0):=by omega
 have hz2:¬((i:Int)=(n:Int)):=by omega
 have hov:∀off lb cb,(callFunc 264 #[.slice (some ⟨vb,0,none⟩) m vc,.slice (some ⟨g,off,none⟩) lb cb]).run U w=.ok (.value (.bool false)) w:=fun off lb cb=>by
  rw[run_callFunc_extern Tryz.func264 (by kernel_rfl) (by kernel_rfl) (by kernel_rfl) (e:=Extern.SlicesOverlaps.overlaps #[64,64] #[4]) (by kernel_rfl),
   Lib.run_overlaps_apart w 64 4 178 t33 4 (fun w=>by kernel_rfl) ⟨vb,0,none⟩ ⟨g,off,none⟩ m vc lb cb hne ve te vcur.size cur.size (by simp[World.shape?,hv]) (by simp[World.shape?,hg]) (by omega) (by simp[World.frozen?,hv]) (by simp[World.frozen?,hv])]
  rfl
 have hdl:((cur.toList.take (n*4)).drop (i*4)).length=(n-i)*4:=by simp only[List.length_drop,List.length_take,Array.length_toList,hcs];rw[Nat.min_eq_left (by omega),Nat.sub_mul]
 have hcl:∀j v,(cur.toList.take (n*4))[j]? =some v->w.cell? ⟨g,j,none⟩=some v:=fun j v h=>by
  rw[List.getElem?_take] at h;split at h
  ·simpa[World.cell?,hg] using h
  ·cases h
 have hcv:∀j v,(vcur.toList.take (m*4))[j]? =some v->w.cell? ⟨vb,j,none⟩=some v:=fun j v h=>by
  rw[List.getElem?_take] at h;split at h
  ·simpa[World.cell?,hv] using h
  ·cases h
 have hcp1:∀ty dc sc,(Builtin.copy_ #[64,64] ty #[.slice (some ⟨g,(i+m)*4,none⟩) (n+m-(i+m)) dc,.slice (some ⟨g,i*4,none⟩) (n+m-i) sc]).run U w.drew=
   .ok (goInt (Nat.min (n+m-i) (n+m-(i+m)))) (w.drew.setRow g (bG cur.toList ((i+m)*4) ((cur.toList.take (n*4)).drop (i*4))).toArray):=fun ty dc sc=>
  xw w.drew _ _ ty 178 4 g ((i+m)*4) (n+m-(i+m)) dc ⟨g,i*4,none⟩ (n+m-i) sc cur te _ t33 hsz hg (by rw[hdl];simp only[Nat.min_def];split<;>omega)
   (fun j v hj=>by rw[Addr.add_lit];exact hcl (i*4+j) v (by rwa[List.getElem?_drop] at hj)) (by rw[hdl,hcs];omega) (fun v hv=>h1c v (List.mem_of_mem_drop hv))
 obtain⟨cur1,hcur1⟩:∃cur1,cur1=(bG cur.toList ((i+m)*4) ((cur.toList.take (n*4)).drop (i*4))).toArray:=⟨_,rfl⟩;rw[<-hcur1] at hcp1;have hc1s:cur1.size=c*4:=by rw[hcur1];simp only[bG,List.size_toArray,List.length_append,List.length_drop,List.length_take,Array.length_toList,hcs];omega
 have hcp2:∀(W:World),W.heap=(w.drew.setRow g cur1).heap->∀ty dc,(Builtin.copy_ #[64,64] ty #[.slice (some ⟨g,i*4,none⟩) (n+m-i) dc,.slice (some ⟨vb,0,none⟩) m vc]).run U W=
   .ok (goInt (Nat.min m (n+m-i))) (W.setRow g (bG cur1.toList (i*4) (vcur.toList.take (m*4))).toArray):=fun W hW ty dc=>
  xw W _ _ ty 178 4 g (i*4) (n+m-i) dc ⟨vb,0,none⟩ m vc cur1 te _ t33 hsz (by rw[hW];exact setRow_heap w.drew g cur cur1 te (0,0) hg)
   (by simp only[List.length_take,Array.length_toList,Nat.min_def];split<;>split<;>omega)
   (fun j v hj=>by
    have:=hcv j v hj;rw[Addr.add_lit,Nat.zero_add];unfold World.cell? at this ⊢;rw[hW,show(w.drew.setRow g cur1).heap[vb]? =w.heap[vb]? from setRow_other w.drew g vb cur1 hne];exact this) (by simp only[List.length_take,Array.length_toList];omega) h1v
 have hE:w.drew.setRow g (bG (bG cur.toList ((i+m)*4) ((cur.toList.take (n*4)).drop (i*4))) (i*4) (vcur.toList.take (m*4))).toArray=(w.drew.setRow g cur1).setRow g (bG cur1.toList (i*4) (vcur.toList.take (m*4))).toArray:=by
  rw[setRow_setRow,hcur1]
 rw[hE];clear hE hcur1;have hw1:IntKind.i64.wrap ((i:Int)+(m:Int))=(i:Int)+(m:Int):=by rw[IntKind.wrap_i64];omega
 have hb1:(0:Int)<=(i:Int)+(m:Int):=by omega
 have hin:i<=n:=by omega
 have htn:((i:Int)+(m:Int)).toNat=i+m:=by omega
 have hb2:¬(c=i+m):=by omega
 have hb3:(i:Int)<=(n:Int)+(m:Int):=by omega
 have hb4:¬(c=i):=by omega
 go_enter Tryz.func230,Tryz.ntmps230
 go_wp2_with (simp only[hov])
 go_region_law (refine M4 rfl _ _ 64 64 rfl (.slice (some ⟨g,(i+m)*4,none⟩) (n+m-(i+m)) (c-(i+m))) (.slice (some ⟨g,i*4,none⟩) (n+m-i) (c-i)) (by simp[Act.eval,Act.put]) (by simp[Act.eval,Act.put]) (hcp1 _ _ _) ?_)
 go_wp2_with (at_builtin;refine MD _ rfl _ _ 64 64 rfl _ _ rfl rfl (hcp2 _ rfl _ _) ?_)
 go_ret
 exact⟨rfl,rfl⟩
theorem aeY(xa:Option Addr)(vc:Nat)(w:World):
  Calls U 230 #[.slice none 0 0,.int .i64 0,.slice xa 0 vc] w fun e w'=>e=.returned (.slice none 0 0)/\w'=w:=by
 go_enter Tryz.func230,Tryz.ntmps230
 go_wp2
 go_ret
 exact⟨rfl,rfl⟩
theorem aeX(g n c i:Nat)(xa:Option Addr)(vc:Nat)(w:World)(hi:i<=n)(hnc:n<=c)(hc63:c<=9223372036854775807):
  Calls U 230 #[.slice (some ⟨g,0,none⟩) n c,.int .i64 i,.slice xa 0 vc] w fun e w'=>e=.returned (.slice (some ⟨g,0,none⟩) n c)/\w'=w:=by
 go_enter Tryz.func230,Tryz.ntmps230
 go_wp2
 all_goals(go_ret;exact⟨rfl,rfl⟩)
theorem agQ(xa:Option Addr)(m vc:Nat)(w:World)(hm:0<m)(v':Value)(W:World)(hr:∀ty,(Builtin.append_ #[64,64] ty #[.slice none 0 0,.slice xa m vc]).run U w=.ok v' W):
  Calls U 230 #[.slice none 0 0,.int .i64 0,.slice xa m vc] w fun e w'=>e=.returned v'/\w'=W:=by
 have hz1:¬((m:Int)=0):=by omega
 go_enter Tryz.func230,Tryz.ntmps230
 go_wp2_with (at_builtin;refine Dl _ rfl _ _ 64 64 rfl _ _ rfl rfl (hr _) ?_)
 go_ret
 exact⟨rfl,rfl⟩
theorem agP(g n c:Nat)(xa:Option Addr)(m vc:Nat)(w:World)(hnc:n<=c)(hc63:c<=9223372036854775807)(hm:0<m)(v':Value)(W:World)(hr:∀ty,(Builtin.append_ #[64,64] ty #[.slice (some ⟨g,0,none⟩) n c,.slice xa m vc]).run U w=.ok v' W):
  Calls U 230 #[.slice (some ⟨g,0,none⟩) n c,.int .i64 n,.slice xa m vc] w fun e w'=>e=.returned v'/\w'=W:=by
 have hz1:¬((m:Int)=0):=by omega
 go_enter Tryz.func230,Tryz.ntmps230
 go_wp2_with (at_builtin;refine Dl _ rfl _ _ 64 64 rfl _ _ rfl rfl (hr _) ?_)
 all_goals(go_ret;exact⟨rfl,rfl⟩)
theorem agO(g n c i vb m vc:Nat)(cur vcur:Array Value)(te ve:TypeId)(w:World)(hi:i<n)(hm:0<m)(hnc:n<=c)(hroom:c<n+m)(hc63:c<=9223372036854775807)(hbig:(n+m)*48<=140737488355328)
  (hg:w.heap[g]? =some (.cells cur te (0,0))) (hv:w.heap[vb]? =some (.cells vcur ve (0,0))) (hcs:cur.size=c*4) (hvs:m*4<=vcur.size)
  (h1c:∀v∈cur.toList.take (n*4),v.oneCell'=true) (h1v:∀v∈vcur.toList.take (m*4),v.oneCell'=true):
  ∃G ROW,∃W:World,G<=maxLen/\n+m<=G/\ROW.size=G*4/\ROW.toList.take (i*4)=cur.toList.take (i*4)/\W.os=w.os/\W.tape=w.tape/\W.output=w.output/\W.heap=w.heap.push (.cells ROW 178 (0,0))/\
  Calls U 230 #[.slice (some ⟨g,0,none⟩) n c,.int .i64 i,.slice (some ⟨vb,0,none⟩) m vc] w fun e w'=>
   e=.returned (.slice (some ⟨w.heap.size,0,none⟩) (n+m) G)/\w'.os=w.os/\w'.tape=w.tape/\w'.output=w.output/\
    w'.heap=(W.setRow w.heap.size (bG (bG ROW.toList (i*4) (vcur.toList.take (m*4))) ((i+m)*4) ((cur.toList.take (n*4)).drop (i*4))).toArray).heap:=by
 have t33:U.underlying 64=some (.slice 178):=by kernel_rfl
 have t3:U.underlying 3=some (.int .i64):=by kernel_rfl
 have hsz:(U.info? 178).map (·.size)=some 4:=by kernel_rfl
 have hinfo:(U.info? 178).map (fun i=>(i.zero.map (·.cells.size),i.size,i.bytes))=some (some 4,4,48):=by kernel_rfl
 obtain⟨i0,hi0,hzz⟩:=Option.map_eq_some_iff.1 hinfo;simp only[Prod.mk.injEq] at hzz;obtain⟨hz0,hzs,hzb⟩:=hzz;obtain⟨z,hz,hzc⟩:=Option.map_eq_some_iff.1 hz0;have hz1:¬((m:Int)=0):=by omega
 have hz2:¬((i:Int)=(n:Int)):=by omega
 have hz3:(c:Int)<(n:Int)+(m:Int):=by omega
 have hgw:g<w.heap.size:=(Array.getElem?_eq_some_iff.1 hg).1;have hvw:vb<w.heap.size:=(Array.getElem?_eq_some_iff.1 hv).1;have hkk:(n:Int)+(m:Int)-(i:Int)=((n+m-i:Nat):Int):=by omega
 have hik:i+(n+m-i)=n+m:=by omega
 have hdl:((cur.toList.take (n*4)).drop (i*4)).length=(n-i)*4:=by simp only[List.length_drop,List.length_take,Array.length_toList,hcs];rw[Nat.min_eq_left (by omega),Nat.sub_mul]
 have hcl:∀j v,(cur.toList.take (n*4))[j]? =some v->w.cell? ⟨g,j,none⟩=some v:=fun j v h=>by
  rw[List.getElem?_take] at h;split at h
  ·simpa[World.cell?,hg] using h
  ·cases h
 have hcv:∀j v,(vcur.toList.take (m*4))[j]? =some v->w.cell? ⟨vb,j,none⟩=some v:=fun j v h=>by
  rw[List.getElem?_take] at h;split at h
  ·simpa[World.cell?,hv] using h
  ·cases h
 have hold:(Builtin.firstCells i0.size i (.slice (some ⟨g,0,none⟩) i c)).run U w.drew=.ok (cur.toList.take (i*4)).toArray w.drew:=by
  rw[hzs];exact run_firstCells_some w.drew 4 i ⟨g,0,none⟩ i c (cur.toList.take (i*4)) (by simp only[List.length_take,Array.length_toList,hcs];omega) (fun j v hj=>by
   rw[Addr.add_lit,Nat.zero_add];refine hcl j v ?_
   rw[List.getElem?_take] at hj ⊢;split at hj
   ·rw[if_pos (by omega)];exact hj
   ·cases hj)
 have hrz:∀ty,(Builtin.append_ #[64,3] ty #[.slice (some ⟨g,0,none⟩) i c,.int .i64 ((n:Int)+(m:Int)-(i:Int))]).run U w=
   .ok (.slice (some ⟨w.heap.size,0,none⟩) (n+m) (grownCap w (n+m) c 178)) (w.drew.alloc (.cells ((cur.toList.take (i*4)).toArray++Builtin.zeroCells z.cells (n+m-i)++Builtin.zeroCells z.cells (grownCap w (n+m) c 178-(n+m))) 178)):=fun ty=>by
  have h:=Lib.run_append_grow_zeros w 64 3 ty 178 i0 z .i64 .i64 t33 t3 hi0 hz (some ⟨g,0,none⟩) i c (cur.toList.take (i*4)) hold (n+m-i) (by omega) (by omega) (by omega) (by omega) (by rw[hzb];omega) (by rw[hzb,hik];exact growslice_fits hroom hbig)
  rw[hik] at h;rw[hkk];exact h
 obtain⟨G,hG⟩:∃G,G=grownCap w (n+m) c 178:=⟨_,rfl⟩;obtain⟨ROW,hROW⟩:∃ROW:Array Value,ROW=(cur.toList.take (i*4)).toArray++Builtin.zeroCells z.cells (n+m-i)++Builtin.zeroCells z.cells (G-(n+m)):=⟨_,rfl⟩;rw[<-hG] at hrz;rw[<-hROW] at hrz;have hGn:n+m<=G:=by rw[hG];exact grownCap_ge w _ _ _
 have hGm:G<=maxLen:=by rw[hG];exact grownCap_le_maxLen w (n+m) c 178 (by unfold maxLen;omega)
 have hG63:G<=9223372036854775807:=by unfold maxLen at hGm;omega
 have hRl:ROW.size=G*4:=by
  rw[hROW];simp only[Array.size_append,List.size_toArray,size_zeroCells,hzc,List.length_take,Array.length_toList,hcs];omega
 have hRt:ROW.toList.take (i*4)=cur.toList.take (i*4):=by
  rw[hROW];simp only[Array.toList_append,List.append_assoc];have:i*4=(cur.toList.take (i*4)).length:=by simp only[List.length_take,Array.length_toList,hcs];omega
  exact List.take_left' this.symm
 refine⟨G,ROW,w.drew.alloc (.cells ROW 178),hGm,hGn,hRl,hRt,rfl,rfl,rfl,rfl,?_⟩;obtain⟨W1,hW1⟩:∃W1,W1=w.drew.alloc (.cells ROW 178):=⟨_,rfl⟩;rw[<-hW1] at hrz ⊢;have hNew:W1.heap[w.heap.size]? =some (.cells ROW 178 (0,0)):=by rw[hW1];exact heap_alloc_new w.drew _
 have hOld:∀b,b<w.heap.size->W1.heap[b]? =w.heap[b]? :=fun b hb=>by rw[hW1];exact RowKit.Below.heap_alloc w.drew _ b hb
 have hos:W1.os=w.os/\W1.tape=w.tape/\W1.output=w.output:=by rw[hW1];exact⟨rfl,rfl,rfl⟩
 have hgN:g≠w.heap.size:=by omega
 have hvN:vb≠w.heap.size:=by omega
 have hcpA:∀(W:World),W.heap=W1.heap->∀ty dc,(Builtin.copy_ #[64,64] ty #[.slice (some ⟨w.heap.size,i*4,none⟩) (n+m-i) dc,.slice (some ⟨vb,0,none⟩) m vc]).run U W=
   .ok (goInt (Nat.min m (n+m-i))) (W.setRow w.heap.size (bG ROW.toList (i*4) (vcur.toList.take (m*4))).toArray):=fun W hW ty dc=>
  xw W _ _ ty 178 4 w.heap.size (i*4) (n+m-i) dc ⟨vb,0,none⟩ m vc ROW 178 _ t33 hsz (by rw[hW];exact hNew)
   (by simp only[List.length_take,Array.length_toList,Nat.min_def];split<;>split<;>omega)
   (fun j v hj=>by
    have:=hcv j v hj;rw[Addr.add_lit,Nat.zero_add];unfold World.cell? at this ⊢;rw[hW,show W1.heap[vb]? =w.heap[vb]? from hOld vb hvw];exact this) (by simp only[List.length_take,Array.length_toList];omega) h1v
 obtain⟨R2,hR2⟩:∃R2,R2=(bG ROW.toList (i*4) (vcur.toList.take (m*4))).toArray:=⟨_,rfl⟩;have hE:W1.setRow w.heap.size (bG (bG ROW.toList (i*4) (vcur.toList.take (m*4))) ((i+m)*4) ((cur.toList.take (n*4)).drop (i*4))).toArray=
   (W1.setRow w.heap.size R2).setRow w.heap.size (bG R2.toList ((i+m)*4) ((cur.toList.take (n*4)).drop (i*4))).toArray:=by rw[setRow_setRow,hR2]
 rw[hE];have hR2s:R2.size=G*4:=by rw[hR2];simp only[bG,List.size_toArray,List.length_append,List.length_drop,List.length_take,Array.length_toList,hRl];omega
 rw[<-hR2] at hcpA;clear hE hR2;have hcpB:∀(W:World),W.heap=(W1.setRow w.heap.size R2).heap->∀ty dc sc,(Builtin.copy_ #[64,64] ty #[.slice (some ⟨w.heap.size,(i+m)*4,none⟩) (n+m-(i+m)) dc,.slice (some ⟨g,i*4,none⟩) (n-i) sc]).run U W=
   .ok (goInt (Nat.min (n-i) (n+m-(i+m)))) (W.setRow w.heap.size (bG R2.toList ((i+m)*4) ((cur.toList.take (n*4)).drop (i*4))).toArray):=fun W hW ty dc sc=>
  xw W _ _ ty 178 4 w.heap.size ((i+m)*4) (n+m-(i+m)) dc ⟨g,i*4,none⟩ (n-i) sc R2 178 _ t33 hsz (by rw[hW];exact setRow_heap W1 w.heap.size ROW R2 178 (0,0) hNew)
   (by rw[hdl];simp only[Nat.min_def];split<;>omega)
   (fun j v hj=>by
    have:=hcl (i*4+j) v (by rwa[List.getElem?_drop] at hj)
    rw[Addr.add_lit];unfold World.cell? at this ⊢;rw[hW,show(W1.setRow w.heap.size R2).heap[g]? =w.heap[g]? from(setRow_other W1 w.heap.size g R2 hgN).trans (hOld g hgw)];exact this) (by rw[hdl,hR2s];omega) (fun v hv=>h1c v (List.mem_of_mem_drop hv))
 have hGi:¬(G=i):=by omega
 have hGim:¬(G=i+m):=by omega
 have hci:¬(c=i):=by omega
 have hw1:IntKind.i64.wrap ((i:Int)+(m:Int))=(i:Int)+(m:Int):=by rw[IntKind.wrap_i64];omega
 have hb1:(0:Int)<=(i:Int)+(m:Int):=by omega
 have hin:i<=n:=by omega
 have htn:((i:Int)+(m:Int)).toNat=i+m:=by omega
 have hb3:(i:Int)<=(n:Int):=by omega
 clear hkk hik hold hROW hG hRl hW1;go_enter Tryz.func230,Tryz.ntmps230
 go_wp2_with (first
  |(at_builtin;refine Dl _ rfl _ _ 64 3 rfl _ _ rfl rfl (hrz _) ?_)
  |(at_builtin;refine MD _ rfl _ _ 64 64 rfl _ _ rfl rfl (hcpA _ rfl _ _) ?_))
 go_region_law (refine M4 rfl _ _ 64 64 rfl (.slice (some ⟨w.heap.size,(i+m)*4,none⟩) (n+m-(i+m)) (G-(i+m))) (.slice (some ⟨g,i*4,none⟩) (n-i) (c-i)) (by simp[Act.eval,Act.put]) (by simp[Act.eval,Act.put]) (hcpB (W1.setRow w.heap.size R2).drew rfl 3 (G-(i+m)) (c-i)) ?_)
 go_wp2
 go_ret
 exact⟨rfl,hos.1,hos.2.1,hos.2.2,rfl⟩
noncomputable def Tm:aF:=GV .entry 48
theorem akZ:aE U 230 Tm:=aeV (t:=.entry) (bt:=48) rfl (by decide) (T:=64) (e:=178) ⟨aeY,aeX,agQ,agP,aeW,agO⟩ (fun vs w=>enters_of Tryz.func230 (by kernel_rfl) rfl _ _) (by kernel_rfl) (by kernel_rfl)
noncomputable abbrev aoM:bg:=[(105,vV),(201,Jv),(229,Wa),(230,Tm)]
theorem Cc:aW U (bd ah aoM):=bc ⟨z105,z201,z229,akZ,⟨⟩⟩
abbrev QH:Shape:=⟨[aH 0 .entry,aH 1 .entry],[],59⟩
abbrev Qn:List aN:=[(.norm,⟨[aH 0 .entry,aH 1 .entry,ar 18],[],59⟩)]
noncomputable def G9(y:QH.J):Option (aw Qn):=
(f105 ((y.1.1,()),())).bind fun a=>
 bif(!(!a.1.1)) then
(f105 ((y.1.2.1,()),())).bind fun b=>
 some ((y.1.1,y.1.2.1,(!b.1.1),()),())
else
 some ((y.1.1,y.1.2.1,true,()),())
theorem ah5:aT U (an (codeOf Tryz.f185) 1 12) (a6 QH Qn G9):=cQ Cc (by kernel_rfl) af fun y=>by kernel_rfl
abbrev M6:Shape:=⟨[bf 6 3000384,aM 8 8 0,ad 9,aH 21 .entry,ad 22,ad 23],[be 3000384 .entry 6 0,aO 8 [ae,br,br,ae]],59⟩
abbrev M0:List aN:=[(.norm,⟨[bf 6 3000384,aH 21 .entry,ad 22,ad 23,ar 42,aM 43 8 1,ad 44,ar 45,ar 46,ar 53],[be 3000384 .entry 6 0,aO 8 [ae,br,br,ae]],59⟩)]
noncomputable def DE(y:M6.J):Option (aw M0):=
 bif(y.2.2.1.2.1 !=(1:Int)) then
 some (((),y.1.2.2.2.1,y.1.2.2.2.2.1,y.1.2.2.2.2.2.1,true,(),y.2.2.1.2.1,(y.2.2.1.2.1 !=(1:Int)),true,true,()),y.2.1,(y.2.2.1.1,y.2.2.1.2.1,y.2.2.1.2.2.1,y.2.2.1.2.2.2.1,()),())
else
(a_ y.2.1.length y.1.2.2.1).bind fun a=>
(y.2.1[a]?).bind fun b=>
 some (((),y.1.2.2.2.1,y.1.2.2.2.2.1,y.1.2.2.2.2.2.1,(!((b.path==y.2.2.1.1)&&((b.kind==y.2.2.1.2.1)&&((b.mode==y.2.2.1.2.2.1)&&(b.text==y.2.2.1.2.2.2.1))))),(),y.2.2.1.2.1,(y.2.2.1.2.1 !=(1:Int)),false,(!((b.path==y.2.2.1.1)&&((b.kind==y.2.2.1.2.1)&&((b.mode==y.2.2.1.2.2.1)&&(b.text==y.2.2.1.2.2.2.1))))),()),y.2.1,(y.2.2.1.1,y.2.2.1.2.1,y.2.2.1.2.2.1,y.2.2.1.2.2.2.1,()),())
theorem abI:aT U (an (c8 (an (codeOf Tryz.f185) 1 122)) 244 250678) (a6 M6 M0 DE):=cQ Cc (by kernel_rfl) af fun y=>by kernel_rfl
abbrev yl:Shape:=⟨[bf 6 3000384,aH 21 .entry,ad 22,ad 23],[be 3000384 .entry 6 0],59⟩
abbrev pH:List aN:=[(.ret,⟨[bf 4 3000256,ar 5],[be 3000256 .entry 4 0],59⟩),(.exit 0,⟨[bf 6 3000384],[be 3000384 .entry 6 0],59⟩)]
noncomputable def yH(y:yl.J):bJ yl pH:=
 bif(decide (y.1.2.2.2.1<y.1.2.2.1)) then
(aP y.1.2.1 y.1.2.2.2.1).bind fun a=>
(f201 ((y.2.1,a.path,()),())).bind fun b=>
 bif(!b.1.2.1) then
(s4 48 y.2.1 b.1.1 ([a]:List aC)).bind fun c=>
 some (.inl (((),y.1.2.1,y.1.2.2.1,(IntKind.i64.wrap (y.1.2.2.2.1+(1:Int))),()),c,()))
else
(DE (((),(),b.1.1,y.1.2.1,y.1.2.2.1,y.1.2.2.2.1,()),y.2.1,(a.path,a.kind,a.mode,a.text,()),())).bind fun d=>
 bif d.1.2.2.2.2.1 then
 some (.inr (.inl (((),false,()),([]:List aC),())))
else
 some (.inl (((),d.1.2.1,d.1.2.2.1,(IntKind.i64.wrap (d.1.2.2.2.1+(1:Int))),()),d.2.1,()))
else
 some (.inr (.inr (((),()),y.2.1,())))
noncomputable def Fh:yl.J->Option (aw pH):=bn yH
theorem agl:aT U (an (codeOf Tryz.f185) 1 122) (a6 yl pH Fh):=bN Cc (by kernel_rfl) (bb abI af) fun y=>by kernel_rfl
abbrev i185:Shape:=⟨[aH 0 .entry,aH 1 .entry],[],59⟩
abbrev UA:Shape:=⟨[bf 4 3000256,ar 5],[be 3000256 .entry 4 0],59⟩
noncomputable def f185(a:i185.J):Option UA.J:=
(G9 ((a.1.1,a.1.2.1,()),())).bind fun b=>
 bif b.1.2.2.1 then
 some (((),false,()),([]:List aC),())
else
(f229 ((b.1.1,()),())).bind fun c=>
(Fh (((),b.1.2.1,(b.1.2.1.length:Int),(0:Int),()),c.2.1,())).bind fun d=>
(match d with
|.inl e=>
 some (((),e.1.2.1,()),e.2.1,())
|.inr f=>
(f105 ((f.2.1,()),())).bind fun g=>
 bif(!g.1.1) then
 some (((),false,()),([]:List aC),())
else
 some (((),true,()),f.2.1,()))
noncomputable def Wx:aF:=aK ah Tryz.f185 i185 UA [] f185
theorem amE:aE U 185 Wx:=aL Cc Tryz.func185 (by kernel_rfl) (bb ah5 (bb agl af)) (fun y=>by kernel_rfl) fun a=>by kernel_rfl
noncomputable abbrev aph:bg:=[(185,Wx)]
theorem Xw:aW U (bd ah aph):=bc ⟨amE,⟨⟩⟩
abbrev zj:Shape:=⟨[bf 4 3000256,aH 9 .pack,ad 10,ad 11],[be 3000256 .entry 4 0],27⟩
abbrev pT:List aN:=[(.ret,⟨[bf 2 3000128,ar 3],[be 3000128 .entry 2 0],27⟩),(.exit 0,⟨[bf 4 3000256],[be 3000256 .entry 4 0],27⟩)]
noncomputable def zY(y:zj.J):bJ zj pT:=
 bif(decide (y.1.2.2.2.1<y.1.2.2.1)) then
(aP y.1.2.1 y.1.2.2.2.1).bind fun a=>
(f185 ((y.2.1,a.bL,()),())).bind fun b=>
 bif(!b.1.2.1) then
 some (.inr (.inl (((),false,()),([]:List aC),())))
else
 some (.inl (((),y.1.2.1,y.1.2.2.1,(IntKind.i64.wrap (y.1.2.2.2.1+(1:Int))),()),b.2.1,()))
else
 some (.inr (.inr (((),()),y.2.1,())))
noncomputable def GN:zj.J->Option (aw pT):=bn zY
theorem aip:aT U (an (codeOf Tryz.f133) 1 58) (a6 zj pT GN):=bN Xw (by kernel_rfl) af fun y=>by kernel_rfl
abbrev i133:Shape:=⟨[aH 0 .pack],[],27⟩
abbrev U7:Shape:=⟨[bf 2 3000128,ar 3],[be 3000128 .entry 2 0],27⟩
noncomputable def f133(a:i133.J):Option U7.J:=
(GN (((),a.1.1,(a.1.1.length:Int),(0:Int),()),([]:List aC),())).bind fun b=>
(match b with
|.inl c=>
 some (((),c.1.2.1,()),c.2.1,())
|.inr d=>
 some (((),true,()),d.2.1,()))
noncomputable def WZ:aF:=aK ah Tryz.f133 i133 U7 [] f133
theorem amT:aE U 133 WZ:=aL Xw Tryz.func133 (by kernel_rfl) (bb aip af) (fun y=>by kernel_rfl) fun a=>by kernel_rfl
theorem Ep:∀(r:List aC) (out B:List aC),(∀e,e∈r->lu e)->(∀e,e∈out->lu e)->hD out r=some B->B.length<=out.length+r.length/\∀e,e∈B->lu e:=by
 intro r;induction r with
 |nil=>intro out B _ h2 h;cases h;exact⟨Nat.le_refl _,h2⟩
 |cons e r ih=>
  intro out B h1 h2 h;rw[xz] at h;obtain⟨o1,h3,ay⟩:=Option.bind_eq_some_iff.1 h;have bo:=ih o1 B (fun x hx=>h1 x (List.mem_cons_of_mem _ hx)) (fun x hx=>by
   rcases D8 h3 hx with rfl|h
   ·exact h1 x List.mem_cons_self
   ·exact h2 x h) ay
  have cc:=xI h3;exact⟨by simp only[List.length_cons];omega,bo.2⟩
theorem acw{t:List aC}(h:dJ t=true):gj t:=by
 unfold dJ at h;simp only[Bool.and_eq_true] at h;exact Su h.1.1
theorem jt{t:List aC}(h:dJ t=true):t.length<=16:=by
 unfold dJ at h;simp only[Bool.and_eq_true,decide_eq_true_eq] at h;exact h.2
theorem afJ(a)(hs:cv a.1.1.length):f229 a=some (((),()),(a.1.1,())):=by
 obtain⟨⟨xs,u⟩,b7⟩:=a;have hs:xs.length<=2097152:=hs;have h2:(cy 48 ([]:List aC) xs).bind (fun x=>some (((),()),(x,())))=(some (((),()),(xs,())):Option IP.J):=by
  rw[dS (by decide) (by unfold am;simp only[List.length_nil];omega)];rfl
 simp only[f229];rw[h2];unfold pG;split
 ·rfl
 ·rename_i h;exact absurd (fun he:xs=[]=>by subst he;rfl) h
theorem acs(a)(ha:is a.1.1)(hb:is a.1.2.1)(h1:dJ a.1.1=true)(h2:dJ a.1.2.1=true):f185 a=
  some (match hD a.1.1 a.1.2.1 with|some out=>(bif dJ out then(((),(true,())),(out,())) else(((),(false,())),(([]:List aC),())))|none=>(((),(false,())),(([]:List aC),()))):=by
 obtain⟨⟨xs,bh,u⟩,b7⟩:=a;have h1:dJ xs=true:=h1;have h2:dJ bh=true:=h2;have av9:=jt h1;have av8:=jt h2;have e1:=py ((xs,()),()) ha;have e2:=py ((bh,()),()) hb;have bz:=afJ ((xs,()),()) (show xs.length<=2097152 by omega)
 have key:Fh (((),(bh,((bh.length:Int),((0:Int),())))),(xs,()))=_:=k1 yH bh (fun i (out:List aC)=>(((),(bh,((bh.length:Int),((i:Int),())))),(out,())))
  (fun i e out=>some (match ij out e with|some B=>.inl B|none=>.inr ((.inl (((),(false,())),(([]:List aC),()))):aw pH))) (fun out=>((.inr (((),()),(out,()))):aw pH))
  (fun i out=>out.length<=xs.length+i/\gj out) xs ⟨Nat.le_refl _,acw h1⟩ (fun i x out hx dk=>?_) (fun out _=>?_)
 ·have fold:∀(r:List aC) (k:Nat) (out:List aC),eA (fun i e out=>some (match ij out e with|some B=>.inl B|none=>.inr ((.inl (((),(false,())),(([]:List aC),()))):aw pH))) (fun out=>((.inr (((),()),(out,()))):aw pH)) k r out=
    some (match hD out r with|some B=>.inr (((),()),(B,()))|none=>.inl (((),(false,())),(([]:List aC),()))):=by
   intro r;induction r with
   |nil=>intro k out;rfl
   |cons e r ih=>
    intro k out;rw[xz];simp only[eA];cases ij out e with
    |none=>rfl
    |some B=>simp only[Option.bind_some];exact ih _ _
  rw[fold] at key;simp only[f185,G9,e1,e2,h1,h2,bz,Bool.not_true,Bool.not_false,cond_true,cond_false,Option.bind_some,key];cases hj:hD xs bh with
  |none=>rfl
  |some B=>
   have hm:=Ep bh xs B hb.2 ha.2 hj;simp only[Option.bind_some];rw[py _ ⟨show B.length<=2097152 by omega,hm.2⟩]
   simp only[Option.bind_some];cases dJ B<;>rfl
 ·have hi:=ct hx;have hw:am i:=by unfold am;omega
  refine⟨?_,fun aD ai=>?_⟩
  ·have mb:=MV ((out,(x.path,())),()) (show out.length<=2097152 by omega) dk.2
   have o_:=rY out x.path;simp only[yH,bZ hi,cond_true,bQ,hx,Option.bind_some,mb,jZ,ij];have grow:s4 48 out (b8 out x.path:Int) [x]=some (km out (b8 out x.path) x):=by
    unfold s4;rw[if_pos ⟨by omega,by omega,by unfold room;simp only[List.length_cons,List.length_nil];omega,by unfold maxLen;simp only[List.length_cons,List.length_nil];omega⟩,Int.toNat_natCast]
    rfl
   cases au:out[b8 out x.path]? with
   |none=>simp only[Bool.not_false,cond_true,grow,Option.bind_some,bK hw];rfl
   |some q=>
    have hin:=fm (ct au);simp only;cases hp:(q.path==x.path) with
    |false=>simp only[Bool.not_false,cond_true,grow,Option.bind_some,bK hw,cond_false];rfl
    |true=>
     have tC:((q.path==x.path)&&((q.kind==x.kind)&&((q.mode==x.mode)&&(q.text==x.text))))=mg q x:=rfl;simp only[Bool.not_true,cond_false,cond_true,DE,hin,au,Option.bind_some,nP,ag1 x q];cases hk:(x.kind !=1) with
     |true=>rfl
     |false=>
      have an2:(mg q x)=((q.path==x.path)&&((q.kind==x.kind)&&((q.mode==x.mode)&&(q.text==x.text)))):=rfl;rw[an2];cases ((q.path==x.path)&&((q.kind==x.kind)&&((q.mode==x.mode)&&(q.text==x.text)))) with
      |false=>rfl
      |true=>simp only[Bool.not_true,Bool.false_or,cond_false,Option.bind_some,bK hw];rfl
  ·simp only[Option.some.injEq] at ai;cases hs:ij out x with
   |none=>rw[hs] at ai;cases ai
   |some B=>
    rw[hs] at ai;cases ai;have cc:=xI hs;exact⟨by omega,adY dk.2 hs⟩
 ·simp only[yH,cX,cond_false]
def gK(out:List aC):List ba->Option (List aC)
 |[]=>some out
 |p::r=>match hD out p.bL with
  |some B=>bif dJ B then gK B r else none
  |none=>none
def stepT(out:List aC)(p:ba):Option (List aC):=match hD out p.bL with
 |some B=>bif dJ B then some B else none
 |none=>none
theorem MZ(out:List aC)(p:ba)(r:List ba):gK out (p::r)=(stepT out p).bind fun B=>gK B r:=by
 unfold stepT;rw[gK];cases hD out p.bL with
 |none=>rfl
 |some B=>simp only;cases dJ B<;>rfl
theorem Ps{out B:List aC}{p:ba}(h:stepT out p=some B):dJ B=true/\hD out p.bL=some B:=by
 unfold stepT at h;split at h
 ·rename_i cZ aG;cases aq:dJ cZ with
  |true=>rw[aq] at h;cases h;exact⟨aq,aG⟩
  |false=>rw[aq] at h;cases h
 ·cases h
theorem adw(a)(hb:ir a.1.1)(hk:a.1.1.all cu=true):f109 a=some (((),((gK [] a.1.1).isSome,())),((gK [] a.1.1).getD [],())):=by
 obtain⟨⟨ps,u⟩,b7⟩:=a;have hl:ps.length<=2097152:=hb.1;have Kw:∀p,p∈ps->dJ p.bL=true/\is p.bL:=by
  intro p hp;have:=List.all_eq_true.1 hk p hp;unfold cu at this;simp only[Bool.and_eq_true] at this;exact⟨this.2,(hb.2 p hp).2.2.2⟩
 have key:GR ((ps,((),((0:Int),()))),(([]:List aC),()))=_:=k1 z7 ps (fun i (out:List aC)=>((ps,((),((i:Int),()))),(out,())))
  (fun i p out=>some (match stepT out p with|some B=>.inl B|none=>.inr ((.inl (((),(false,())),(([]:List aC),()))):aw pU))) (fun out=>((.inr (((),()),(out,()))):aw pU))
  (fun i out=>out.length<=16/\∀e,e∈out->lu e) [] ⟨Nat.zero_le _,fun e h=>by cases h⟩ (fun i x out hx dk=>?_) (fun out _=>?_)
 ·have fold:∀(r:List ba) (k:Nat) (out:List aC),eA (fun i p out=>some (match stepT out p with|some B=>.inl B|none=>.inr ((.inl (((),(false,())),(([]:List aC),()))):aw pU))) (fun out=>((.inr (((),()),(out,()))):aw pU)) k r out=
    some (match gK out r with|some B=>.inr (((),()),(B,()))|none=>.inl (((),(false,())),(([]:List aC),()))):=by
   intro r;induction r with
   |nil=>intro k out;rfl
   |cons p r ih=>
    intro k out;rw[MZ];simp only[eA];cases stepT out p with
    |none=>rfl
    |some B=>simp only[Option.bind_some];exact ih _ _
  rw[fold] at key;simp only[f109,key,Option.bind_some];cases gK [] ps with
  |none=>rfl
  |some B=>rfl
 ·have hi:=ct hx;have hw:am i:=by unfold am;omega
  obtain⟨Kx,n6⟩:=Kw x (List.mem_of_getElem? hx);have wM:=jt Kx;have ed:is out:=⟨show out.length<=2097152 by omega,dk.2⟩
  refine⟨?_,fun aD ai=>?_⟩
  ·have hj:=afz ((out,(x.bL,())),()) ed n6 (show out.length+x.bL.length<=2097152 by omega)
   simp only[z7,bZ hi,cond_true,bQ,hx,Option.bind_some,hj,stepT];cases hD out x.bL with
   |none=>rfl
   |some B=>
    simp only;cases dJ B with
    |false=>rfl
    |true=>simp only[Bool.not_true,cond_false,cond_true,bK hw];rfl
  ·simp only[Option.some.injEq] at ai;cases hs:stepT out x with
   |none=>rw[hs] at ai;cases ai
   |some B=>
    rw[hs] at ai;cases ai;obtain⟨bo,cc⟩:=Ps hs;exact⟨jt bo,(Ep _ _ _ n6.2 dk.2 cc).2⟩
 ·simp only[z7,cX,cond_false]
theorem aft(a)(hb:ir a.1.1)(hk:a.1.1.all cu=true):∃out,f109 a=some (((),((gK [] a.1.1).isSome,())),(out,())):=⟨_,adw a hb hk⟩
theorem aaP(a)(hb:ir a.1.1)(hk:a.1.1.all cu=true):f133 a=some (((),((gK [] a.1.1).isSome,())),((gK [] a.1.1).getD [],())):=by
 obtain⟨⟨ps,u⟩,b7⟩:=a;have hl:ps.length<=2097152:=hb.1;have Kw:∀p,p∈ps->dJ p.bL=true/\is p.bL:=by
  intro p hp;have:=List.all_eq_true.1 hk p hp;unfold cu at this;simp only[Bool.and_eq_true] at this;exact⟨this.2,(hb.2 p hp).2.2.2⟩
 have key:GN (((),(ps,((ps.length:Int),((0:Int),())))),(([]:List aC),()))=_:=k1 zY ps (fun i (out:List aC)=>(((),(ps,((ps.length:Int),((i:Int),())))),(out,())))
  (fun i p out=>some (match stepT out p with|some B=>.inl B|none=>.inr ((.inl (((),(false,())),(([]:List aC),()))):aw pT))) (fun out=>((.inr (((),()),(out,()))):aw pT))
  (fun i out=>dJ out=true/\∀e,e∈out->lu e) [] ⟨rfl,fun e h=>by cases h⟩ (fun i x out hx dk=>?_) (fun out _=>?_)
 ·have fold:∀(r:List ba) (k:Nat) (out:List aC),eA (fun i p out=>some (match stepT out p with|some B=>.inl B|none=>.inr ((.inl (((),(false,())),(([]:List aC),()))):aw pT))) (fun out=>((.inr (((),()),(out,()))):aw pT)) k r out=
    some (match gK out r with|some B=>.inr (((),()),(B,()))|none=>.inl (((),(false,())),(([]:List aC),()))):=by
   intro r;induction r with
   |nil=>intro k out;rfl
   |cons p r ih=>
    intro k out;rw[MZ];simp only[eA];cases stepT out p with
    |none=>rfl
    |some B=>simp only[Option.bind_some];exact ih _ _
  rw[fold] at key;simp only[f133,key,Option.bind_some];cases gK [] ps with
  |none=>rfl
  |some B=>rfl
 ·have hi:=ct hx;have hw:am i:=by unfold am;omega
  obtain⟨Kx,n6⟩:=Kw x (List.mem_of_getElem? hx);have wM:=jt dk.1;have ed:is out:=⟨show out.length<=2097152 by omega,dk.2⟩
  refine⟨?_,fun aD ai=>?_⟩
  ·have hj:=acs ((out,(x.bL,())),()) ed n6 dk.1 Kx;simp only[zY,bZ hi,cond_true,bQ,hx,Option.bind_some,hj,stepT];cases hD out x.bL with
   |none=>rfl
   |some B=>
    simp only;cases dJ B with
    |false=>rfl
    |true=>simp only[Bool.not_true,cond_false,cond_true,bK hw];rfl
  ·simp only[Option.some.injEq] at ai;cases hs:stepT out x with
   |none=>rw[hs] at ai;cases ai
   |some B=>
    rw[hs] at ai;cases ai;obtain⟨bo,cc⟩:=Ps hs;exact⟨bo,(Ep _ _ _ n6.2 dk.2 cc).2⟩
 ·simp only[zY,cX,cond_false]
theorem abq(a)(hb:ir a.1.1)(hk:a.1.1.all cu=true):∃out,f133 a=some (((),((gK [] a.1.1).isSome,())),(out,())):=⟨_,aaP a hb hk⟩
abbrev PB:Shape:=⟨[aH 0 .i64,aH 1 .i64,ad 5],[],42⟩
abbrev Pn:List aN:=[(.norm,⟨[aH 0 .i64,aH 1 .i64,ad 5],[],42⟩),(.exit 0,⟨[],[],42⟩)]
noncomputable def rS(y:PB.J):Option (aw Pn):=
 bif(!(decide (y.1.2.2.1<(y.1.1.length:Int)))) then
 bif(decide (y.1.2.2.1<(y.1.2.1.length:Int))) then
 some (.inl ((y.1.1,y.1.2.1,y.1.2.2.1,()),()))
else
 some (.inr ((),()))
else
 some (.inl ((y.1.1,y.1.2.1,y.1.2.2.1,()),()))
theorem agf:aT U (an (c8 (an (codeOf Tryz.f238) 1 26)) 52 104) (a6 PB Pn rS):=cQ g0 (by kernel_rfl) af fun y=>by kernel_rfl
abbrev Ok:Shape:=⟨[aH 0 .i64,aH 1 .i64,ad 5,ad 6,ad 7],[],42⟩
abbrev N4:List aN:=[(.norm,⟨[aH 0 .i64,aH 1 .i64,ad 5,ad 6,ad 7],[],42⟩)]
noncomputable def uq(y:Ok.J):Option (aw N4):=
 bif(decide (y.1.2.2.1<(y.1.1.length:Int))) then
(aP y.1.1 y.1.2.2.1).bind fun a=>
 some ((y.1.1,y.1.2.1,y.1.2.2.1,a,y.1.2.2.2.2.1,()),())
else
 some ((y.1.1,y.1.2.1,y.1.2.2.1,y.1.2.2.2.1,y.1.2.2.2.2.1,()),())
theorem aej:aT U (an (c8 (an (codeOf Tryz.f238) 1 26)) 52 3366) (a6 Ok N4 uq):=cQ g0 (by kernel_rfl) af fun y=>by kernel_rfl
abbrev Oj:Shape:=⟨[aH 0 .i64,aH 1 .i64,ad 5,ad 6,ad 7],[],42⟩
abbrev N3:List aN:=[(.norm,⟨[aH 0 .i64,aH 1 .i64,ad 5,ad 6,ad 7],[],42⟩)]
noncomputable def uo(y:Oj.J):Option (aw N3):=
 bif(decide (y.1.2.2.1<(y.1.2.1.length:Int))) then
(aP y.1.2.1 y.1.2.2.1).bind fun a=>
 some ((y.1.1,y.1.2.1,y.1.2.2.1,y.1.2.2.2.1,a,()),())
else
 some ((y.1.1,y.1.2.1,y.1.2.2.1,y.1.2.2.2.1,y.1.2.2.2.2.1,()),())
theorem aei:aT U (an (c8 (an (codeOf Tryz.f238) 1 26)) 52 6734) (a6 Oj N3 uo):=cQ g0 (by kernel_rfl) af fun y=>by kernel_rfl
abbrev y0:Shape:=⟨[aH 0 .i64,aH 1 .i64,ad 5],[],42⟩
abbrev FU:List aN:=[(.ret,⟨[ad 4],[],42⟩),(.exit 0,⟨[],[],42⟩)]
noncomputable def r'(y:y0.J):bJ y0 FU:=
(rS ((y.1.1,y.1.2.1,y.1.2.2.1,()),())).bind fun a=>
(match a with
|.inl b=>
(uq ((b.1.1,b.1.2.1,b.1.2.2.1,((-1):Int),((-1):Int),()),())).bind fun c=>
(uo ((c.1.1,c.1.2.1,c.1.2.2.1,c.1.2.2.2.1,c.1.2.2.2.2.1,()),())).bind fun d=>
 bif(decide (d.1.2.2.2.1<d.1.2.2.2.2.1)) then
 some (.inr (.inl ((((-1):Int),()),())))
else
 bif(decide (d.1.2.2.2.1>d.1.2.2.2.2.1)) then
 some (.inr (.inl (((1:Int),()),())))
else
 some (.inl ((d.1.1,d.1.2.1,(IntKind.i64.wrap (d.1.2.2.1+(1:Int))),()),()))
|.inr e=>
 some (.inr (.inr ((),()))))
noncomputable def nw:y0.J->Option (aw FU):=bn r'
theorem ahU:aT U (an (codeOf Tryz.f238) 1 26) (a6 y0 FU nw):=bN g0 (by kernel_rfl) (bb agf (bb aej (bb aei af))) fun y=>by kernel_rfl
abbrev i238:Shape:=⟨[aH 0 .i64,aH 1 .i64],[],42⟩
abbrev IN:Shape:=⟨[ad 4],[],42⟩
noncomputable def f238(a:i238.J):Option IN.J:=
(nw ((a.1.1,a.1.2.1,(0:Int),()),())).bind fun b=>
(match b with
|.inl c=>
 some ((c.1.1,()),())
|.inr d=>
 some (((0:Int),()),()))
noncomputable def V8:aF:=aK ah Tryz.f238 i238 IN [] f238
theorem amk:aE U 238 V8:=aL g0 Tryz.func238 (by kernel_rfl) (bb ahU af) (fun y=>by kernel_rfl) fun a=>by kernel_rfl
noncomputable abbrev aoF:bg:=[(140,JG),(238,V8)]
theorem Xg:aW U (bd ah aoF):=bc ⟨TF,amk,⟨⟩⟩
abbrev QG:Shape:=⟨[bf 5 3000320,ar 6,bf 7 3000448,ar 8],[be 3000320 .i64 5 0,be 3000448 .i64 7 0],28⟩
abbrev Qm:List aN:=[(.norm,⟨[bf 5 3000320,bf 7 3000448,ar 24],[be 3000320 .i64 5 0,be 3000448 .i64 7 0],28⟩)]
noncomputable def G8(y:QG.J):Option (aw Qm):=
 bif(!(!y.1.2.1)) then
 some (((),(),(!y.1.2.2.2.1),()),y.2.1,y.2.2.1,())
else
 some (((),(),true,()),y.2.1,y.2.2.1,())
theorem ahZ:aT U (an (codeOf Tryz.f204) 1 60) (a6 QG Qm G8):=cQ Xg (by kernel_rfl) af fun y=>by kernel_rfl
abbrev i204:Shape:=⟨[ap 0,ap 1],[],28⟩
abbrev Uk:Shape:=⟨[ad 4],[],28⟩
noncomputable def f204(a:i204.J):Option Uk.J:=
(f140 ((a.1.1,()),())).bind fun b=>
(f140 ((a.1.2.1,()),())).bind fun c=>
(G8 (((),b.1.2.1,(),c.1.2.1,()),b.2.1,c.2.1,())).bind fun d=>
 bif d.1.2.2.1 then
 some (((0:Int),()),())
else
(f238 ((d.2.1,d.2.2.1,()),())).bind fun e=>
 some ((e.1.1,()),())
noncomputable def Wk:aF:=aK ah Tryz.f204 i204 Uk [] f204
theorem amt:aE U 204 Wk:=aL Xg Tryz.func204 (by kernel_rfl) (bb ahZ af) (fun y=>by kernel_rfl) fun a=>by kernel_rfl
noncomputable abbrev aoZ:bg:=[(204,Wk)]
theorem apS:aW U (bd ah aoZ):=bc ⟨amt,⟨⟩⟩
abbrev i161:Shape:=⟨[b_ 0 [ae,br,ae],ap 1,ap 2],[],30⟩
abbrev UL:Shape:=⟨[ar 6],[],30⟩
noncomputable def f161(a:i161.J):Option UL.J:=
 bif(!(a.1.1.1==a.1.2.1)) then
 some ((false,()),())
else
(f204 ((a.1.2.2.1,a.1.1.2.2.1,()),())).bind fun b=>
 bif(a.1.1.2.1==(1:Int)) then
 some (((b.1.1==(0:Int)),()),())
else
 bif(a.1.1.2.1==(2:Int)) then
 some (((decide (b.1.1>=(0:Int))),()),())
else
 bif(a.1.1.2.1==(3:Int)) then
 some (((decide (b.1.1<(0:Int))),()),())
else
 some ((true,()),())
noncomputable def WI:aF:=aK ah Tryz.f161 i161 UL [] f161
theorem amL:aE U 161 WI:=aL apS Tryz.func161 (by kernel_rfl) af (fun y=>by kernel_rfl) fun a=>by kernel_rfl
abbrev i288:Shape:=⟨[ad 0],[],6⟩
abbrev TT:Shape:=⟨[ar 2],[],6⟩
noncomputable def f288(a:i288.J):Option TT.J:=
 some (((a.1.1 !=a.1.1),()),())
noncomputable def VW:aF:=aK ah Tryz.f288 i288 TT [] f288
theorem al8:aE U 288 VW:=aL g0 Tryz.func288 (by kernel_rfl) af (fun y=>by kernel_rfl) fun a=>by kernel_rfl
noncomputable abbrev aom:bg:=[(288,VW)]
theorem apz:aW U (bd ah aom):=bc ⟨al8,⟨⟩⟩
abbrev i286:Shape:=⟨[ad 0,ad 1],[],20⟩
abbrev TU:Shape:=⟨[ad 4],[],20⟩
noncomputable def f286(a:i286.J):Option TU.J:=
(f288 ((a.1.1,()),())).bind fun b=>
(f288 ((a.1.2.1,()),())).bind fun c=>
 bif b.1.1 then
 bif c.1.1 then
 some (((0:Int),()),())
else
 some ((((-1):Int),()),())
else
 bif c.1.1 then
 some (((1:Int),()),())
else
 bif(decide (a.1.1<a.1.2.1)) then
 some ((((-1):Int),()),())
else
 bif(decide (a.1.1>a.1.2.1)) then
 some (((1:Int),()),())
else
 some (((0:Int),()),())
noncomputable def VX:aF:=aK ah Tryz.f286 i286 TU [] f286
theorem al9:aE U 286 VX:=aL apz Tryz.func286 (by kernel_rfl) af (fun y=>by kernel_rfl) fun a=>by kernel_rfl
noncomputable abbrev aon:bg:=[(286,VX)]
theorem Xc:aW U (bd ah aon):=bc ⟨al9,⟨⟩⟩
abbrev yW:Shape:=⟨[aH 0 .i64,aH 1 .i64,aH 9 .i64,ad 10,ad 11],[],36⟩
abbrev FQ:List aN:=[(.ret,⟨[ad 4],[],36⟩),(.exit 0,⟨[aH 0 .i64,aH 1 .i64],[],36⟩)]
noncomputable def uS(y:yW.J):bJ yW FQ:=
 bif(decide (y.1.2.2.2.2.1<y.1.2.2.2.1)) then
(aP y.1.2.2.1 y.1.2.2.2.2.1).bind fun a=>
 bif(decide (y.1.2.2.2.2.1>=(y.1.2.1.length:Int))) then
 some (.inr (.inl (((1:Int),()),())))
else
(aP y.1.2.1 y.1.2.2.2.2.1).bind fun b=>
(f286 ((a,b,()),())).bind fun c=>
 bif(c.1.1 !=(0:Int)) then
 some (.inr (.inl ((c.1.1,()),())))
else
 some (.inl ((y.1.1,y.1.2.1,y.1.2.2.1,y.1.2.2.2.1,(IntKind.i64.wrap (y.1.2.2.2.2.1+(1:Int))),()),()))
else
 some (.inr (.inr ((y.1.1,y.1.2.1,()),())))
noncomputable def ov:yW.J->Option (aw FQ):=bn uS
theorem ahQ:aT U (an (codeOf Tryz.f281) 1 26) (a6 yW FQ ov):=bN Xc (by kernel_rfl) af fun y=>by kernel_rfl
abbrev i281:Shape:=⟨[aH 0 .i64,aH 1 .i64],[],36⟩
abbrev IM:Shape:=⟨[ad 4],[],36⟩
noncomputable def f281(a:i281.J):Option IM.J:=
(ov ((a.1.1,a.1.2.1,a.1.1,(a.1.1.length:Int),(0:Int),()),())).bind fun b=>
(match b with
|.inl c=>
 some ((c.1.1,()),())
|.inr d=>
 bif(decide ((d.1.1.length:Int)<(d.1.2.1.length:Int))) then
 some ((((-1):Int),()),())
else
 some (((0:Int),()),()))
noncomputable def VZ:aF:=aK ah Tryz.f281 i281 IM [] f281
theorem amb:aE U 281 VZ:=aL Xc Tryz.func281 (by kernel_rfl) (bb ahQ af) (fun y=>by kernel_rfl) fun a=>by kernel_rfl
noncomputable abbrev aoq:bg:=[(281,VZ)]
theorem apB:aW U (bd ah aoq):=bc ⟨amb,⟨⟩⟩
abbrev i263:Shape:=⟨[aH 0 .i64,aH 1 .i64],[],8⟩
abbrev T1:Shape:=⟨[ad 4],[],8⟩
noncomputable def f263(a:i263.J):Option T1.J:=
(f281 ((a.1.1,a.1.2.1,()),())).bind fun b=>
 some ((b.1.1,()),())
noncomputable def V4:aF:=aK ah Tryz.f263 i263 T1 [] f263
theorem amg:aE U 263 V4:=aL apB Tryz.func263 (by kernel_rfl) af (fun y=>by kernel_rfl) fun a=>by kernel_rfl
noncomputable abbrev aov:bg:=[(151,JB),(263,V4)]
theorem Xd:aW U (bd ah aov):=bc ⟨TB,amg,⟨⟩⟩
abbrev QE:Shape:=⟨[bf 5 3000320,ar 6,bf 7 3000448,ar 8],[be 3000320 .i64 5 0,be 3000448 .i64 7 0],28⟩
abbrev Qk:List aN:=[(.norm,⟨[bf 5 3000320,bf 7 3000448,ar 24],[be 3000320 .i64 5 0,be 3000448 .i64 7 0],28⟩)]
noncomputable def G7(y:QE.J):Option (aw Qk):=
 bif(!(!y.1.2.1)) then
 some (((),(),(!y.1.2.2.2.1),()),y.2.1,y.2.2.1,())
else
 some (((),(),true,()),y.2.1,y.2.2.1,())
theorem ahW:aT U (an (codeOf Tryz.f227) 1 60) (a6 QE Qk G7):=cQ Xd (by kernel_rfl) af fun y=>by kernel_rfl
abbrev i227:Shape:=⟨[ap 0,ap 1],[],28⟩
abbrev T9:Shape:=⟨[ad 4],[],28⟩
noncomputable def f227(a:i227.J):Option T9.J:=
(f151 ((a.1.1,()),())).bind fun b=>
(f151 ((a.1.2.1,()),())).bind fun c=>
(G7 (((),b.2.2.2.1.1,(),c.2.2.2.1.1,()),b.2.1,c.2.1,())).bind fun d=>
 bif d.1.2.2.1 then
 some (((0:Int),()),())
else
(f263 ((d.2.1,d.2.2.1,()),())).bind fun e=>
 some ((e.1.1,()),())
noncomputable def Wb:aF:=aK ah Tryz.f227 i227 T9 [] f227
theorem z227:aE U 227 Wb:=aL Xd Tryz.func227 (by kernel_rfl) (bb ahW af) (fun y=>by kernel_rfl) fun a=>by kernel_rfl
noncomputable abbrev aoN:bg:=[(100,B_),(102,vW),(227,Wb)]
theorem Xj:aW U (bd ah aoN):=bc ⟨IC,BN,z227,⟨⟩⟩
abbrev QI:Shape:=⟨[ap 1,ap 2,aM 3 3 0],[aO 3 [ae,br,ae]],44⟩
abbrev Qo:List aN:=[(.norm,⟨[ap 2,aM 3 3 0,ar 20],[aO 3 [ae,br,ae]],44⟩)]
noncomputable def G_(y:QI.J):Option (aw Qo):=
(f102 (((y.2.1.1,y.2.1.2.1,y.2.1.2.2.1,()),()),())).bind fun a=>
 bif(!(!a.1.1)) then
(f100 ((y.1.2.1,()),())).bind fun b=>
 bif(!(!b.1.1)) then
 some ((y.1.2.1,(),(!(y.1.1==y.2.1.1)),()),(y.2.1.1,y.2.1.2.1,y.2.1.2.2.1,()),())
else
 some ((y.1.2.1,(),true,()),(y.2.1.1,y.2.1.2.1,y.2.1.2.2.1,()),())
else
 some ((y.1.2.1,(),true,()),(y.2.1.1,y.2.1.2.1,y.2.1.2.2.1,()),())
theorem ah6:aT U (an (codeOf Tryz.f183) 1 12) (a6 QI Qo G_):=cQ Xj (by kernel_rfl) af fun y=>by kernel_rfl
abbrev i183:Shape:=⟨[b_ 0 [ae,br,ae],ap 1,ap 2],[],44⟩
abbrev UB:Shape:=⟨[ar 6],[],44⟩
noncomputable def f183(a:i183.J):Option UB.J:=
(G_ ((a.1.2.1,a.1.2.2.1,(),()),(a.1.1.1,a.1.1.2.1,a.1.1.2.2.1,()),())).bind fun b=>
 bif b.1.2.2.1 then
 some ((false,()),())
else
 bif(b.2.1.2.1==(1:Int)) then
(f227 ((b.1.1,b.2.1.2.2.1,()),())).bind fun c=>
 some (((c.1.1==(0:Int)),()),())
else
 bif(b.2.1.2.1==(2:Int)) then
(f227 ((b.1.1,b.2.1.2.2.1,()),())).bind fun d=>
 some (((decide (d.1.1>=(0:Int))),()),())
else
 bif(b.2.1.2.1==(3:Int)) then
(f227 ((b.1.1,b.2.1.2.2.1,()),())).bind fun e=>
 some (((decide (e.1.1<(0:Int))),()),())
else
 some ((true,()),())
noncomputable def Wy:aF:=aK ah Tryz.f183 i183 UB [] f183
theorem z183:aE U 183 Wy:=aL Xj Tryz.func183 (by kernel_rfl) (bb ah6 af) (fun y=>by kernel_rfl) fun a=>by kernel_rfl
def oR:List Int->List Int->Int
 |[],[]=>0
 |[],_::_=>-1
 |_::_,[]=>1
 |x::a,y::b=>bif decide (x<y) then-1 else bif decide (x>y) then 1 else oR a b
theorem drop_cons{ax:Type}{xs:List ax}{k:Nat}{x:ax}{r:List ax}(h:xs.drop k=x::r):xs[k]? =some x/\xs.drop (k+1)=r/\k<xs.length:=by
 have h1:xs[k]? =some x:=by
  have:=congrArg (fun l=>l[0]?) h
  simpa using this
 refine⟨h1,?_,ct h1⟩;have:=congrArg List.tail h;simpa using this
theorem drop_nil{ax:Type}{xs:List ax}{k:Nat}(h:xs.drop k=[]):xs.length<=k:=by
 have:=congrArg List.length h;simp at this;omega
theorem adB(a)(h1:cv a.1.1.length)(h2:cv a.1.2.1.length)(iw:∀x,x∈a.1.1->0<=x)(ic:∀x,x∈a.1.2.1->0<=x):f238 a=some ((oR a.1.1 a.1.2.1,()),()):=by
 obtain⟨⟨xs,bh,u⟩,b7⟩:=a;have h1:xs.length<=2097152:=h1;have h2:bh.length<=2097152:=h2;have iw:∀x:Int,x∈xs->0<=x:=iw;have ic:∀x:Int,x∈bh->0<=x:=ic;have key:∀(n:Nat) (us ws:List Int) (k:Nat),us.length+ws.length=n->xs.drop k=us->bh.drop k=ws->k<=2097152->
   (nw ((xs,(bh,((k:Int),()))),())).bind (fun ans=>(match ans with|.inl anr=>some ((anr.1.1,()),())|.inr av5=>some (((0:Int),()),()):Option IN.J))=some ((oR us ws,()),()):=by
  intro n;induction n using Nat.strongRecOn with
  |_ n ih=>
   intro us ws k hn ha hb hk;have hw:am k:=by unfold am;omega
   match us,ws with
   |[],[]=>
    have c1:=drop_nil ha;have c2:=drop_nil hb;have d1:decide ((k:Int)<(xs.length:Int))=false:=by simp only[decide_eq_false_iff_not];omega
    have d2:decide ((k:Int)<(bh.length:Int))=false:=by simp only[decide_eq_false_iff_not];omega
    have:nw ((xs,(bh,((k:Int),()))),())=some (.inr ((),())):=by
     refine ca ?_
     simp only[r',rS,d1,d2,Bool.not_false,cond_true,cond_false,Option.bind_some]
    rw[this];rfl
   |[],y::ws=>
    have c1:=drop_nil ha;obtain⟨c2,c3,c5⟩:=drop_cons hb;have hy:=ic y (List.mem_of_getElem? c2);have d1:decide ((k:Int)<(xs.length:Int))=false:=by simp only[decide_eq_false_iff_not];omega
    have d3:decide ((-1:Int)<y)=true:=by simp only[decide_eq_true_eq];omega
    have:nw ((xs,(bh,((k:Int),()))),())=some (.inl ((((-1):Int),()),())):=by
     refine ca ?_
     simp only[r',rS,uq,uo,d1,bZ c5,bQ,c2,Bool.not_false,cond_true,cond_false,Option.bind_some,d3]
    rw[this];rfl
   |x::us,[]=>
    have c1:=drop_nil hb;obtain⟨c2,c3,c5⟩:=drop_cons ha;have hx:=iw x (List.mem_of_getElem? c2);have d1:decide ((k:Int)<(bh.length:Int))=false:=by simp only[decide_eq_false_iff_not];omega
    have d3:decide (x<(-1:Int))=false:=by simp only[decide_eq_false_iff_not];omega
    have d4:decide (x>(-1:Int))=true:=by simp only[decide_eq_true_eq];omega
    have:nw ((xs,(bh,((k:Int),()))),())=some (.inl (((1:Int),()),())):=by
     refine ca ?_
     simp only[r',rS,uq,uo,d1,bZ c5,bQ,c2,Bool.not_true,cond_true,cond_false,Option.bind_some,d3,d4]
    rw[this];rfl
   |x::us,y::ws=>
    obtain⟨c2,c3,c5⟩:=drop_cons ha;obtain⟨e2,bz,da⟩:=drop_cons hb;have step:r' ((xs,(bh,((k:Int),()))),())=some (bif decide (x<y) then .inr (.inl ((((-1):Int),()),())) else bif decide (x>y) then .inr (.inl (((1:Int),()),())) else .inl ((xs,(bh,(((k+1:Nat):Int),()))),())):=by
     simp only[r',rS,uq,uo,bZ c5,bZ da,bQ,c2,e2,Bool.not_true,cond_true,cond_false,Option.bind_some,bK hw];cases decide (x<y)<;>cases decide (x>y)<;>rfl
    rw[oR];cases hlt:decide (x<y) with
    |true=>rw[hlt,cond_true] at step;rw[show nw ((xs,(bh,((k:Int),()))),())=_ from ca step];rfl
    |false=>
     rw[hlt,cond_false] at step;cases qQ:decide (x>y) with
     |true=>rw[qQ,cond_true] at step;rw[show nw ((xs,(bh,((k:Int),()))),())=_ from ca step];rfl
     |false=>
      rw[qQ,cond_false] at step;rw[show nw ((xs,(bh,((k:Int),()))),())=_ from du step]
      exact ih (us.length+ws.length) (by simp only[List.length_cons] at hn;omega) us ws (k+1) rfl c3 bz (by omega)
 have:=key _ xs bh 0 rfl rfl rfl (Nat.zero_le _);simp only[f238];exact this
theorem afF(a):f286 a=some ((bif decide (a.1.1<a.1.2.1) then-1 else bif decide (a.1.1>a.1.2.1) then 1 else 0,()),()):=by
 obtain⟨⟨x,y,u⟩,b7⟩:=a;have hx:(x !=x)=false:=by simp
 have hy:(y !=y)=false:=by simp
 simp only[f286,f288,Option.bind_some,hx,hy,cond_false];cases decide (x<y)<;>cases decide (x>y)<;>rfl
theorem adT(a)(h1:cv a.1.1.length)(h2:cv a.1.2.1.length):f281 a=some ((oR a.1.1 a.1.2.1,()),()):=by
 obtain⟨⟨xs,bh,u⟩,b7⟩:=a;have h1:xs.length<=2097152:=h1;have h2:bh.length<=2097152:=h2;have key:∀(us ws:List Int) (k:Nat),xs.drop k=us->bh.drop k=ws->k<=xs.length->
   (ov ((xs,(bh,(xs,((xs.length:Int),((k:Int),()))))),())).bind (fun aln=>(match aln with
    |.inl alm=>some ((alm.1.1,()),())
    |.inr SV=>bif(decide ((SV.1.1.length:Int)<(SV.1.2.1.length:Int))) then some ((((-1):Int),()),()) else some (((0:Int),()),()):Option IM.J))=some ((oR us ws,()),()):=by
  intro us;induction us with
  |nil=>
   intro ws k ha hb hk;have c1:=drop_nil ha;have d1:decide ((k:Int)<(xs.length:Int))=false:=by simp only[decide_eq_false_iff_not];omega
   have:ov ((xs,(bh,(xs,((xs.length:Int),((k:Int),()))))),())=some (.inr ((xs,(bh,())),())):=by
    refine ca ?_
    simp only[uS,d1,cond_false]
   rw[this];simp only[Option.bind_some];cases ws with
   |nil=>
    have c2:=drop_nil hb;have:decide ((xs.length:Int)<(bh.length:Int))=false:=by simp only[decide_eq_false_iff_not];omega
    rw[this];rfl
   |cons y ws=>
    obtain⟨_,_,c5⟩:=drop_cons hb;rw[bZ (show xs.length<bh.length by omega)];rfl
  |cons x us ih=>
   intro ws k ha hb hk;obtain⟨c2,c3,c5⟩:=drop_cons ha;have hw:am k:=by unfold am;omega
   cases ws with
   |nil=>
    have c1:=drop_nil hb;have d1:decide ((k:Int)>=(bh.length:Int))=true:=by simp only[decide_eq_true_eq];omega
    have:ov ((xs,(bh,(xs,((xs.length:Int),((k:Int),()))))),())=some (.inl (((1:Int),()),())):=by
     refine ca ?_
     simp only[uS,bZ c5,cond_true,bQ,c2,Option.bind_some,d1]
    rw[this];rfl
   |cons y ws=>
    obtain⟨e2,bz,da⟩:=drop_cons hb;have d1:decide ((k:Int)>=(bh.length:Int))=false:=by simp only[decide_eq_false_iff_not];omega
    have step:uS ((xs,(bh,(xs,((xs.length:Int),((k:Int),()))))),())=some (bif decide (x<y) then .inr (.inl ((((-1):Int),()),())) else bif decide (x>y) then .inr (.inl (((1:Int),()),())) else .inl ((xs,(bh,(xs,((xs.length:Int),(((k+1:Nat):Int),()))))),())):=by
     simp only[uS,bZ c5,bQ,c2,e2,d1,cond_true,cond_false,Option.bind_some,afF,bK hw];cases decide (x<y)<;>cases decide (x>y)<;>rfl
    rw[oR];cases hlt:decide (x<y) with
    |true=>rw[hlt,cond_true] at step;rw[show ov ((xs,(bh,(xs,((xs.length:Int),((k:Int),()))))),())=_ from ca step];rfl
    |false=>
     rw[hlt,cond_false] at step;cases qQ:decide (x>y) with
     |true=>rw[qQ,cond_true] at step;rw[show ov ((xs,(bh,(xs,((xs.length:Int),((k:Int),()))))),())=_ from ca step];rfl
     |false=>
      rw[qQ,cond_false] at step;rw[show ov ((xs,(bh,(xs,((xs.length:Int),((k:Int),()))))),())=_ from du step]
      exact ih ws (k+1) c3 bz (by omega)
 have:=key xs bh 0 rfl rfl (Nat.zero_le _);simp only[f281];exact this
def qm(a b:F):Int:=bif dZ a&&dZ b then oR (hA a) (hA b) else 0
theorem MG{s:F}(h:dZ s=true):∀x,x∈hA s->0<=x:=by
 intro x hx;unfold hA at hx;obtain⟨p,hp,rfl⟩:=List.mem_map.1 hx;unfold dZ at h;simp only[Bool.and_eq_true] at h;have:=List.all_eq_true.1 h.1 p hp;unfold fp at this;simp only[Bool.and_eq_true] at this;exact Nq p 0 this.1.1.1.1 (Int.le_refl _)
theorem xD(s:F):(hA s).length<=s.length+1:=by
 unfold hA hX;rw[List.length_map];exact ru 46 s
theorem aal(a)(h1:a.1.1.length<=2097151)(h2:a.1.2.1.length<=2097151):f204 a=some ((qm a.1.1 a.1.2.1,()),()):=by
 obtain⟨⟨x,y,u⟩,b7⟩:=a;have h1:x.length<=2097151:=h1;have h2:y.length<=2097151:=h2;obtain⟨o1,e1,q1⟩:=DV ((x,()),()) (show x.length<=2097152 by omega)
 obtain⟨o2,e2,q2⟩:=DV ((y,()),()) (show y.length<=2097152 by omega)
 simp only[f204,e1,e2,Option.bind_some,G8,qm,Bool.not_not];cases hx:dZ x with
 |false=>rfl
 |true=>
  cases hy:dZ y with
  |false=>rfl
  |true=>
   have arE:=xD x;have Cz:=xD y;have aS:o1=hA x:=q1 hx;have w2:o2=hA y:=q2 hy;subst aS w2;have bz:=adB ((hA x,(hA y,())),()) (show(hA x).length<=2097152 by omega) (show(hA y).length<=2097152 by omega) (MG hx) (MG hy)
   simp only[cond_true,Bool.not_true,Option.bind_some,cond_false,bz,Bool.and_self]
theorem aaf(a)(h1:a.1.1.length<=2097151)(h2:a.1.2.1.length<=2097151):f227 a=some ((qm a.1.1 a.1.2.1,()),()):=by
 obtain⟨⟨x,y,u⟩,b7⟩:=a;have h1:x.length<=2097151:=h1;have h2:y.length<=2097151:=h2;have e1:=Do ((x,()),()) (show x.length<=2097152 by omega)
 have e2:=Do ((y,()),()) (show y.length<=2097152 by omega)
 simp only[f227,e1,e2,Option.bind_some,G7,qm,Bool.not_not];cases hx:dZ x with
 |false=>rfl
 |true=>
  cases hy:dZ y with
  |false=>rfl
  |true=>
   have arE:=xD x;have Cz:=xD y;have bz:=adT ((hA x,(hA y,())),()) (show(hA x).length<=2097152 by omega) (show(hA y).length<=2097152 by omega)
   simp only[cond_true,Bool.not_true,Option.bind_some,cond_false,f263,bz,Bool.and_self]
def sR(n:bB)(v:F):Bool:=bif n.kind==1 then qm v n.aU==0 else bif n.kind==2 then decide (qm v n.aU>=0) else bif n.kind==3 then decide (qm v n.aU<0) else true
theorem afx(a)(h1:a.1.1.2.2.1.length<=2097151)(h2:a.1.2.2.1.length<=2097151)(hn:a.1.2.1=a.1.1.1):f161 a=some ((sR ⟨a.1.1.1,a.1.1.2.1,a.1.1.2.2.1⟩ a.1.2.2.1,()),()):=by
 obtain⟨⟨⟨n,k,v,u⟩,m,w,b7⟩,ln⟩:=a;obtain rfl:m=n:=hn;have e1:=aal ((w,(v,())),()) h2 h1;have eT:(m==m)=true:=by simp
 simp only[f161,eT,e1,Bool.not_true,cond_false,Option.bind_some,sR];cases (k==1)<;>cases (k==2)<;>cases (k==3)<;>rfl
def la(n:bB)(name v:F):Bool:=dv n&&dZ v&&(name==n.name)&&sR n v
theorem acu(a)(h0:cv a.1.1.1.length)(h1:a.1.1.2.2.1.length<=2097151)(h2:a.1.2.2.1.length<=2097151):f183 a=some ((la ⟨a.1.1.1,a.1.1.2.1,a.1.1.2.2.1⟩ a.1.2.1 a.1.2.2.1,()),()):=by
 obtain⟨⟨⟨n,k,v,u⟩,m,w,b7⟩,ln⟩:=a;have h1:v.length<=2097151:=h1;have h2:w.length<=2097151:=h2;have e1:=aaf ((w,(v,())),()) h2 h1;have e2:=xG (((n,(k,(v,()))),()),()) h0 (show v.length<=2097152 by omega)
 have bz:=Dr ((w,()),()) (show w.length<=2097152 by omega)
 simp only[f183,G_,e1,e2,bz,Bool.not_not,Option.bind_some,la,sR];cases dv ⟨n,k,v⟩ with
 |false=>rfl
 |true=>
  cases dZ w with
  |false=>rfl
  |true=>
   cases (m==n) with
   |false=>rfl
   |true=>
    simp only[cond_true,Bool.not_true,Option.bind_some,cond_false,Bool.true_and];cases (k==1)<;>cases (k==2)<;>cases (k==3)<;>simp only[cond_true,cond_false,Option.bind_some,e1]
abbrev y_:Shape:=⟨[aH 0 .pack,ap 1,ad 5],[],20⟩
abbrev F2:List aN:=[(.ret,⟨[ad 4],[],20⟩),(.exit 0,⟨[],[],20⟩)]
noncomputable def zP(y:y_.J):bJ y_ F2:=
 bif(decide (y.1.2.2.1<(y.1.1.length:Int))) then
(aP y.1.1 y.1.2.2.1).bind fun a=>
 bif(a.name==y.1.2.1) then
 some (.inr (.inl ((y.1.2.2.1,()),())))
else
 some (.inl ((y.1.1,y.1.2.1,(IntKind.i64.wrap (y.1.2.2.1+(1:Int))),()),()))
else
 some (.inr (.inr ((),())))
noncomputable def r3:y_.J->Option (aw F2):=bn zP
theorem aid:aT U (an (codeOf Tryz.f160) 1 26) (a6 y_ F2 r3):=bN g0 (by kernel_rfl) af fun y=>by kernel_rfl
abbrev i160:Shape:=⟨[aH 0 .pack,ap 1],[],20⟩
abbrev UM:Shape:=⟨[ad 4],[],20⟩
noncomputable def f160(a:i160.J):Option UM.J:=
(r3 ((a.1.1,a.1.2.1,(0:Int),()),())).bind fun b=>
(match b with
|.inl c=>
 some ((c.1.1,()),())
|.inr d=>
 some ((((-1):Int),()),()))
noncomputable def WJ:aF:=aK ah Tryz.f160 i160 UM [] f160
theorem z160:aE U 160 WJ:=aL g0 Tryz.func160 (by kernel_rfl) (bb aid af) (fun y=>by kernel_rfl) fun a=>by kernel_rfl
noncomputable abbrev apt:bg:=[(160,WJ),(161,WI)]
theorem Cf:aW U (bd ah apt):=bc ⟨z160,amL,⟨⟩⟩
abbrev M9:Shape:=⟨[aH 0 .pack,ad 3,ad 4,aM 5 5 0,ad 6],[aO 5 [ae,br,ae]],49⟩
abbrev M3:List aN:=[(.norm,⟨[aH 0 .pack,ad 3,ad 4,ad 35,ar 36,ar 37,ar 48],[],49⟩)]
noncomputable def xn(y:M9.J):Option (aw M3):=
 bif(decide (y.1.2.2.2.2.1<(0:Int))) then
 some ((y.1.1,y.1.2.1,y.1.2.2.1,y.1.2.2.2.2.1,(decide (y.1.2.2.2.2.1<(0:Int))),true,true,()),())
else
(aP y.1.1 y.1.2.2.2.2.1).bind fun a=>
(f161 (((y.2.1.1,y.2.1.2.1,y.2.1.2.2.1,()),y.2.1.1,a.aU,()),())).bind fun b=>
 some ((y.1.1,y.1.2.1,y.1.2.2.1,y.1.2.2.2.2.1,(decide (y.1.2.2.2.2.1<(0:Int))),false,(!b.1.1),()),())
theorem abL:aT U (an (c8 (an (c8 (an (codeOf Tryz.f110) 1 26)) 52 1682)) 3364 215334) (a6 M9 M3 xn):=cQ Cf (by kernel_rfl) af fun y=>by kernel_rfl
abbrev xT:Shape:=⟨[aH 0 .pack,ad 3,ad 4],[],49⟩
abbrev D5:List aN:=[(.ret,⟨[ar 2],[],49⟩),(.exit 2,⟨[aH 0 .pack,ad 3],[],49⟩)]
noncomputable def x3(y:xT.J):bJ xT D5:=
(aP y.1.1 y.1.2.1).bind fun a=>
 bif(decide (y.1.2.2.1<(a.bj.length:Int))) then
(aP y.1.1 y.1.2.1).bind fun b=>
(aP b.bj y.1.2.2.1).bind fun c=>
(f160 ((y.1.1,c.name,()),())).bind fun d=>
(xn ((y.1.1,y.1.2.1,y.1.2.2.1,(),d.1.1,()),(c.name,c.kind,c.aU,()),())).bind fun e=>
 bif e.1.2.2.2.2.2.2.1 then
 some (.inr (.inl ((false,()),())))
else
 some (.inl ((e.1.1,e.1.2.1,(IntKind.i64.wrap (e.1.2.2.1+(1:Int))),()),()))
else
 some (.inr (.inr ((y.1.1,y.1.2.1,()),())))
noncomputable def Em:xT.J->Option (aw D5):=bn x3
theorem aeA:aT U (an (c8 (an (codeOf Tryz.f110) 1 26)) 52 1682) (a6 xT D5 Em):=bN Cf (by kernel_rfl) (bb abL af) fun y=>by kernel_rfl
abbrev zp:Shape:=⟨[aH 0 .pack,ad 3],[],49⟩
abbrev Gf:List aN:=[(.ret,⟨[ar 2],[],49⟩),(.exit 0,⟨[],[],49⟩)]
noncomputable def z6(y:zp.J):bJ zp Gf:=
 bif(decide (y.1.2.1<(y.1.1.length:Int))) then
(Em ((y.1.1,y.1.2.1,(0:Int),()),())).bind fun a=>
(match a with
|.inl b=>
 some (.inr (.inl ((b.1.1,()),())))
|.inr c=>
 some (.inl ((c.1.1,(IntKind.i64.wrap (c.1.2.1+(1:Int))),()),())))
else
 some (.inr (.inr ((),())))
noncomputable def GQ:zp.J->Option (aw Gf):=bn z6
theorem aiw:aT U (an (codeOf Tryz.f110) 1 26) (a6 zp Gf GQ):=bN Cf (by kernel_rfl) (bb aeA af) fun y=>by kernel_rfl
abbrev i110:Shape:=⟨[aH 0 .pack],[],49⟩
abbrev Vh:Shape:=⟨[ar 2],[],49⟩
noncomputable def f110(a:i110.J):Option Vh.J:=
(GQ ((a.1.1,(0:Int),()),())).bind fun b=>
(match b with
|.inl c=>
 some ((c.1.1,()),())
|.inr d=>
 some ((true,()),()))
noncomputable def W_:aF:=aK ah Tryz.f110 i110 Vh [] f110
theorem amY:aE U 110 W_:=aL Cf Tryz.func110 (by kernel_rfl) (bb aiw af) (fun y=>by kernel_rfl) fun a=>by kernel_rfl
noncomputable abbrev akQ:bg:=[(54,Iy),(56,Lo)]
theorem SI:aW U (bd ah akQ):=bc ⟨SM,XH,⟨⟩⟩
abbrev Ou:Shape:=⟨[(0,.ak (.en [.sl .pack] 0))],[],10⟩
abbrev N':List aN:=[(.norm,⟨[ar 9],[],10⟩)]
noncomputable def Ex(y:Ou.J):Option (aw N'):=
(sS ((y.1.1.1,(),()),())).bind fun a=>
 bif(!(!a.1.1)) then
(f56 ((y.1.1.1,()),())).bind fun b=>
 some (((!b.1.1),()),())
else
 some ((true,()),())
theorem aev:aT U (an (codeOf Tryz.f128) 1 12) (a6 Ou N' Ex):=cQ SI (by kernel_rfl) af fun y=>by kernel_rfl
abbrev Sd:Shape:=⟨[(0,.ak (.en [.sl .pack] 0))],[],10⟩
abbrev RY:Shape:=⟨[ad 1],[],10⟩
noncomputable def sz(a:Sd.J):Option RY.J:=
(Ex (((a.1.1.1,()),()),())).bind fun b=>
 bif b.1.1 then
 some (((1:Int),()),())
else
 some (((0:Int),()),())
noncomputable def SC:aF:=aK ah Tryz.f128 Sd RY [] sz
theorem ajl:aE U 128 SC:=aL SI Tryz.func128 (by kernel_rfl) (bb aev af) (fun y=>by kernel_rfl) fun a=>by kernel_rfl
abbrev Sc:Shape:=⟨[(0,.ak (.en [.sl .pack] 0))],[],5⟩
abbrev RX:Shape:=⟨[ad 1],[],5⟩
noncomputable def sy(a:Sc.J):Option RX.J:=
 bif(decide ((a.1.1.1.length:Int)>(5:Int))) then
 some (((6:Int),()),())
else
 some (((0:Int),()),())
noncomputable def SB:aF:=aK ah Tryz.f129 Sc RX [] sy
theorem ajk:aE U 129 SB:=aL g0 Tryz.func129 (by kernel_rfl) af (fun y=>by kernel_rfl) fun a=>by kernel_rfl
noncomputable abbrev akN:bg:=[(183,Wy)]
theorem akU:aW U (bd ah akN):=bc ⟨z183,⟨⟩⟩
abbrev R':Shape:=⟨[b_ 0 [ae,ae,b6 .need,b6 .entry],(1,.ak (.en [.str,.int .i64,.str] 0))],[],10⟩
abbrev RU:Shape:=⟨[ar 3],[],10⟩
noncomputable def Ia(a:R'.J):Option RU.J:=
(f183 (((a.1.2.1.1,a.1.2.1.2.1,a.1.2.1.2.2.1,()),a.1.1.1,a.1.1.2.1,()),())).bind fun b=>
 some ((b.1.1,()),())
noncomputable def Sy:aF:=aK ah Tryz.f182 R' RU [] Ia
theorem ajh:aE U 182 Sy:=aL akU Tryz.func182 (by kernel_rfl) af (fun y=>by kernel_rfl) fun a=>by kernel_rfl
noncomputable abbrev akL:bg:=[(182,Sy)]
theorem SH:aW U (bd ah akL):=bc ⟨ajh,⟨⟩⟩
abbrev xN:Shape:=⟨[aH 0 .pack,(1,.ak (.fn 182 [[.str,.int .i64,.str]])),ad 7,ad 8],[],19⟩
abbrev DZ:List aN:=[(.ret,⟨[ad 4],[],19⟩),(.exit 0,⟨[],[],19⟩)]
noncomputable def xY(y:xN.J):bJ xN DZ:=
 bif(decide (y.1.2.2.2.1<y.1.2.2.1)) then
(aP y.1.1 y.1.2.2.2.1).bind fun a=>
(Ia (((a.name,a.aU,a.bj,a.bL,()),(y.1.2.1.1.1,y.1.2.1.1.2.1,y.1.2.1.1.2.2.1,()),()),())).bind fun b=>
 bif b.1.1 then
 some (.inr (.inl ((y.1.2.2.2.1,()),())))
else
 some (.inl ((y.1.1,((y.1.2.1.1.1,y.1.2.1.1.2.1,y.1.2.1.1.2.2.1,()),()),y.1.2.2.1,(IntKind.i64.wrap (y.1.2.2.2.1+(1:Int))),()),()))
else
 some (.inr (.inr ((),())))
noncomputable def rH:xN.J->Option (aw DZ):=bn xY
theorem ael:aT U (an (codeOf Tryz.f228) 1 26) (a6 xN DZ rH):=bN SH (by kernel_rfl) af fun y=>by kernel_rfl
abbrev R9:Shape:=⟨[aH 0 .pack,(1,.ak (.fn 182 [[.str,.int .i64,.str]]))],[],19⟩
abbrev HK:Shape:=⟨[ad 4],[],19⟩
noncomputable def A'(a:R9.J):Option HK.J:=
(rH ((a.1.1,((a.1.2.1.1.1,a.1.2.1.1.2.1,a.1.2.1.1.2.2.1,()),()),(a.1.1.length:Int),(0:Int),()),())).bind fun b=>
(match b with
|.inl c=>
 some ((c.1.1,()),())
|.inr d=>
 some ((((-1):Int),()),()))
noncomputable def Sw:aF:=aK ah Tryz.f228 R9 HK [] A'
theorem ajf:aE U 228 Sw:=aL SH Tryz.func228 (by kernel_rfl) (bb ael af) (fun y=>by kernel_rfl) fun a=>by kernel_rfl
noncomputable abbrev akM:bg:=[(228,Sw)]
theorem akT:aW U (bd ah akM):=bc ⟨ajf,⟨⟩⟩
abbrev R_:Shape:=⟨[aH 0 .pack,(1,.ak (.fn 182 [[.str,.int .i64,.str]]))],[],9⟩
abbrev RT:Shape:=⟨[ar 4],[],9⟩
noncomputable def Ba(a:R_.J):Option RT.J:=
(A' ((a.1.1,((a.1.2.1.1.1,a.1.2.1.1.2.1,a.1.2.1.1.2.2.1,()),()),()),())).bind fun b=>
 some (((decide (b.1.1>=(0:Int))),()),())
noncomputable def Sx:aF:=aK ah Tryz.f184 R_ RT [] Ba
theorem ajg:aE U 184 Sx:=aL akT Tryz.func184 (by kernel_rfl) af (fun y=>by kernel_rfl) fun a=>by kernel_rfl
noncomputable abbrev api:bg:=[(184,Sx)]
theorem JT:aW U (bd ah api):=bc ⟨ajg,⟨⟩⟩
abbrev xQ:Shape:=⟨[aH 0 .pack,aH 8 .pack,ad 9,ad 10,aH 15 .need,ad 16,ad 17],[],28⟩
abbrev D2:List aN:=[(.ret,⟨[ar 2],[],28⟩),(.exit 2,⟨[aH 0 .pack,aH 8 .pack,ad 9,ad 10],[],28⟩)]
noncomputable def x1(y:xQ.J):bJ xQ D2:=
 bif(decide (y.1.2.2.2.2.2.2.1<y.1.2.2.2.2.2.1)) then
(aP y.1.2.2.2.2.1 y.1.2.2.2.2.2.2.1).bind fun a=>
(Ba ((y.1.1,((a.name,a.kind,a.aU,()),()),()),())).bind fun b=>
 bif(!b.1.1) then
 some (.inr (.inl ((false,()),())))
else
 some (.inl ((y.1.1,y.1.2.1,y.1.2.2.1,y.1.2.2.2.1,y.1.2.2.2.2.1,y.1.2.2.2.2.2.1,(IntKind.i64.wrap (y.1.2.2.2.2.2.2.1+(1:Int))),()),()))
else
 some (.inr (.inr ((y.1.1,y.1.2.1,y.1.2.2.1,y.1.2.2.2.1,()),())))
noncomputable def Ej:xQ.J->Option (aw D2):=bn x1
theorem aeu:aT U (an (c8 (an (codeOf Tryz.f131) 1 26)) 52 6758) (a6 xQ D2 Ej):=bN JT (by kernel_rfl) af fun y=>by kernel_rfl
abbrev zk:Shape:=⟨[aH 0 .pack,aH 8 .pack,ad 9,ad 10],[],28⟩
abbrev Ga:List aN:=[(.ret,⟨[ar 2],[],28⟩),(.exit 0,⟨[],[],28⟩)]
noncomputable def zZ(y:zk.J):bJ zk Ga:=
 bif(decide (y.1.2.2.2.1<y.1.2.2.1)) then
(aP y.1.2.1 y.1.2.2.2.1).bind fun a=>
(Ej ((y.1.1,y.1.2.1,y.1.2.2.1,y.1.2.2.2.1,a.bj,(a.bj.length:Int),(0:Int),()),())).bind fun b=>
(match b with
|.inl c=>
 some (.inr (.inl ((c.1.1,()),())))
|.inr d=>
 some (.inl ((d.1.1,d.1.2.1,d.1.2.2.1,(IntKind.i64.wrap (d.1.2.2.2.1+(1:Int))),()),())))
else
 some (.inr (.inr ((),())))
noncomputable def GO:zk.J->Option (aw Ga):=bn zZ
theorem aiq:aT U (an (codeOf Tryz.f131) 1 26) (a6 zk Ga GO):=bN JT (by kernel_rfl) (bb aeu af) fun y=>by kernel_rfl
abbrev i131:Shape:=⟨[aH 0 .pack],[],28⟩
abbrev U8:Shape:=⟨[ar 2],[],28⟩
noncomputable def f131(a:i131.J):Option U8.J:=
(GO ((a.1.1,a.1.1,(a.1.1.length:Int),(0:Int),()),())).bind fun b=>
(match b with
|.inl c=>
 some ((c.1.1,()),())
|.inr d=>
 some ((true,()),()))
noncomputable def W0:aF:=aK ah Tryz.f131 i131 U8 [] f131
theorem z131:aE U 131 W0:=aL JT Tryz.func131 (by kernel_rfl) (bb aiq af) (fun y=>by kernel_rfl) fun a=>by kernel_rfl
noncomputable abbrev akP:bg:=[(131,W0)]
theorem akW:aW U (bd ah akP):=bc ⟨z131,⟨⟩⟩
abbrev Sb:Shape:=⟨[(0,.ak (.en [.sl .pack] 0))],[],5⟩
abbrev RW:Shape:=⟨[ad 1],[],5⟩
noncomputable def sx(a:Sb.J):Option RW.J:=
(f131 ((a.1.1.1,()),())).bind fun b=>
 bif(!b.1.1) then
 some (((4:Int),()),())
else
 some (((0:Int),()),())
noncomputable def SA:aF:=aK ah Tryz.f130 Sb RW [] sx
theorem ajj:aE U 130 SA:=aL akW Tryz.func130 (by kernel_rfl) af (fun y=>by kernel_rfl) fun a=>by kernel_rfl
noncomputable abbrev akO:bg:=[(133,WZ)]
theorem akV:aW U (bd ah akO):=bc ⟨amT,⟨⟩⟩
abbrev Sa:Shape:=⟨[(0,.ak (.en [.sl .pack] 0))],[],11⟩
abbrev RV:Shape:=⟨[ad 1],[],11⟩
noncomputable def sw(a:Sa.J):Option RV.J:=
(f133 ((a.1.1.1,()),())).bind fun b=>
 bif(!b.1.2.1) then
 some (((5:Int),()),())
else
 some (((0:Int),()),())
noncomputable def Sz:aF:=aK ah Tryz.f132 Sa RV [] sw
theorem aji:aE U 132 Sz:=aL akV Tryz.func132 (by kernel_rfl) af (fun y=>by kernel_rfl) fun a=>by kernel_rfl
noncomputable abbrev atB:bg:=[(50,CZ),(109,W'),(110,W_)]
theorem Ly:aW U (bd ah atB):=bc ⟨J1,z109,amY,⟨⟩⟩
abbrev QA:Shape:=⟨[aH 0 .pack,ad 3],[],52⟩
abbrev Qg:List aN:=[(.norm,⟨[aH 0 .pack,ad 3,aH 12 .pack,ad 13,(14,.ak (.en [.str,.str,.sl .need,.sl .entry] 0)),b_ 15 [ae,ae,b6 .need,b6 .entry],ar 16,ar 17,ar 18,ar 35],[],52⟩)]
noncomputable def G2(y:QA.J):Option (aw Qg):=
(aP y.1.1 y.1.2.1).bind fun a=>
(f50 (((a.name,a.aU,a.bj,a.bL,()),()),())).bind fun b=>
 bif(!b.1.1) then
 some ((y.1.1,y.1.2.1,y.1.1,y.1.2.1,(a.name,a.aU,a.bj,a.bL,()),(a.name,a.aU,a.bj,a.bL,()),b.1.1,(!b.1.1),true,true,()),())
else
 bif(decide (y.1.2.1>(0:Int))) then
(aP y.1.1 (IntKind.i64.wrap (y.1.2.1-(1:Int)))).bind fun c=>
(aP y.1.1 y.1.2.1).bind fun d=>
 some ((y.1.1,y.1.2.1,y.1.1,y.1.2.1,(a.name,a.aU,a.bj,a.bL,()),(a.name,a.aU,a.bj,a.bL,()),b.1.1,(!b.1.1),false,(!(Op.bytesLess c.name d.name)),()),())
else
 some ((y.1.1,y.1.2.1,y.1.1,y.1.2.1,(a.name,a.aU,a.bj,a.bL,()),(a.name,a.aU,a.bj,a.bL,()),b.1.1,(!b.1.1),false,false,()),())
theorem ahK:aT U (an (c8 (an (codeOf Tryz.f60) 1 26)) 52 840) (a6 QA Qg G2):=cQ Ly (by kernel_rfl) af fun y=>by kernel_rfl
abbrev Az:Shape:=⟨[aH 0 .pack,ad 3],[],52⟩
abbrev Hv:List aN:=[(.ret,⟨[ad 2],[],52⟩),(.exit 0,⟨[aH 0 .pack],[],52⟩)]
noncomputable def A1(y:Az.J):bJ Az Hv:=
 bif(decide (y.1.2.1<(y.1.1.length:Int))) then
(G2 ((y.1.1,y.1.2.1,()),())).bind fun a=>
 bif a.1.2.2.2.2.2.2.2.2.2.1 then
 some (.inr (.inl (((1:Int),()),())))
else
 some (.inl ((a.1.1,(IntKind.i64.wrap (a.1.2.1+(1:Int))),()),()))
else
 some (.inr (.inr ((y.1.1,()),())))
noncomputable def HY:Az.J->Option (aw Hv):=bn A1
theorem ajW:aT U (an (codeOf Tryz.f60) 1 26) (a6 Az Hv HY):=bN Ly (by kernel_rfl) (bb ahK af) fun y=>by kernel_rfl
abbrev i60:Shape:=⟨[aH 0 .pack],[],52⟩
abbrev Yf:Shape:=⟨[ad 2],[],52⟩
noncomputable def f60(a:i60.J):Option Yf.J:=
(HY ((a.1.1,(0:Int),()),())).bind fun b=>
(match b with
|.inl c=>
 some ((c.1.1,()),())
|.inr d=>
(f109 ((d.1.1,()),())).bind fun e=>
 bif(decide ((d.1.1.length:Int)>(5:Int))) then
 some (((6:Int),()),())
else
(f110 ((d.1.1,()),())).bind fun f=>
 bif(!f.1.1) then
 some (((4:Int),()),())
else
 bif(!e.1.2.1) then
 some (((5:Int),()),())
else
 some (((0:Int),()),()))
noncomputable def ZK:aF:=aK ah Tryz.f60 i60 Yf [] f60
theorem aqj:aE U 60 ZK:=aL Ly Tryz.func60 (by kernel_rfl) (bb ajW af) (fun y=>by kernel_rfl) fun a=>by kernel_rfl
noncomputable abbrev atV:bg:=[(60,ZK)]
theorem auo:aW U (bd ah atV):=bc ⟨aqj,⟨⟩⟩
abbrev i30:Shape:=⟨[b_ 0 [b6 .pack]],[],7⟩
abbrev Yx:Shape:=⟨[ar 2],[],7⟩
noncomputable def f30(a:i30.J):Option Yx.J:=
(f60 ((a.1.1.1,()),())).bind fun b=>
 some (((b.1.1==(0:Int)),()),())
noncomputable def C1:aF:=aK ah Tryz.f30 i30 Yx [] f30
theorem J3:aE U 30 C1:=aL auo Tryz.func30 (by kernel_rfl) af (fun y=>by kernel_rfl) fun a=>by kernel_rfl
noncomputable abbrev tP:bg:=[(128,SC),(129,SB),(130,SA),(132,Sz)]
theorem Z':aW U (bd ah tP):=bc ⟨ajl,ajk,ajj,aji,⟨⟩⟩
abbrev SS:Shape:=⟨[aM 1 1 0],[aO 1 [b6 .pack]],24⟩
abbrev oH:List aN:=[(.ret,⟨[ad 2],[],24⟩)]
noncomputable def qc(c:Int):aw oH:=((c,()),())
noncomputable def Is(y:SS.J):Option (aw oH):=
 qa y.2.1.1 qc [fun ps=>sz (((ps,()),()),()),fun ps=>sy (((ps,()),()),()),fun ps=>sx (((ps,()),()),()),fun ps=>sw (((ps,()),()),())]
theorem ak6:∀ps k i,exec (gJ (bd ah tP) []) (an (c8 (an (codeOf Tryz.f81) 1 58)) 116 3737) 3737 (((gf 24).st (gY 24 ps k i)).set 5 (b0 (.clo 128 [(1,0)]))) (qd 24 oH)=((fun ps=>sz (((ps,()),()),())) ps).bind fun r=>bif(r.1.1 !=0) then some (.inr (qc r.1.1)) else some (.inl (gY 24 ps k i)):=fun ps k i=>by kernel_rfl
theorem ak5:∀ps k i,exec (gJ (bd ah tP) []) (an (c8 (an (codeOf Tryz.f81) 1 58)) 116 3737) 3737 (((gf 24).st (gY 24 ps k i)).set 5 (b0 (.clo 129 [(1,0)]))) (qd 24 oH)=((fun ps=>sy (((ps,()),()),())) ps).bind fun r=>bif(r.1.1 !=0) then some (.inr (qc r.1.1)) else some (.inl (gY 24 ps k i)):=fun ps k i=>by kernel_rfl
theorem ak4:∀ps k i,exec (gJ (bd ah tP) []) (an (c8 (an (codeOf Tryz.f81) 1 58)) 116 3737) 3737 (((gf 24).st (gY 24 ps k i)).set 5 (b0 (.clo 130 [(1,0)]))) (qd 24 oH)=((fun ps=>sx (((ps,()),()),())) ps).bind fun r=>bif(r.1.1 !=0) then some (.inr (qc r.1.1)) else some (.inl (gY 24 ps k i)):=fun ps k i=>by kernel_rfl
theorem ak3:∀ps k i,exec (gJ (bd ah tP) []) (an (c8 (an (codeOf Tryz.f81) 1 58)) 116 3737) 3737 (((gf 24).st (gY 24 ps k i)).set 5 (b0 (.clo 132 [(1,0)]))) (qd 24 oH)=((fun ps=>sw (((ps,()),()),())) ps).bind fun r=>bif(r.1.1 !=0) then some (.inr (qc r.1.1)) else some (.inl (gY 24 ps k i)):=fun ps k i=>by kernel_rfl
theorem alo:aT U (an (codeOf Tryz.f81) 1 3) (a6 SS oH Is):=
 ab8 (C:=gJ (bd ah tP) []) (os:=oH) (nt:=24) (T:=165) (e:=164) (m0:=((opsOf (an (codeOf Tryz.f81) 1 6)).getD 0 default)) (m1:=((opsOf (an (codeOf Tryz.f81) 1 6)).getD 1 default)) (m2:=((opsOf (an (codeOf Tryz.f81) 1 6)).getD 2 default)) (m3:=((opsOf (an (codeOf Tryz.f81) 1 6)).getD 3 default)) (m4:=((opsOf (an (codeOf Tryz.f81) 1 6)).getD 4 default)) (m5:=((opsOf (an (codeOf Tryz.f81) 1 6)).getD 5 default)) (n0:=((opsOf (an (codeOf Tryz.f81) 1 28)).getD 0 default)) (n1:=((opsOf (an (codeOf Tryz.f81) 1 28)).getD 1 default)) (n2:=((opsOf (an (codeOf Tryz.f81) 1 28)).getD 2 default)) (q0:=((opsOf (an (c8 (an (codeOf Tryz.f81) 1 58)) 116 232)).getD 0 default)) (r0:=((opsOf (an (c8 (an (codeOf Tryz.f81) 1 58)) 116 3736)).getD 0 default)) (r1:=((opsOf (an (c8 (an (codeOf Tryz.f81) 1 58)) 116 3736)).getD 1 default)) (r2:=((opsOf (an (c8 (an (codeOf Tryz.f81) 1 58)) 116 3736)).getD 2 default))
  (i1:=sF (an (codeOf Tryz.f81) 1 6)) (i2:=sF (an (codeOf Tryz.f81) 1 28)) (i3:=sF (an (c8 (an (codeOf Tryz.f81) 1 58)) 116 232)) (i4:=sF (an (c8 (an (codeOf Tryz.f81) 1 58)) 116 3736)) (BB:=(an (c8 (an (codeOf Tryz.f81) 1 58)) 116 3737)) (r8:=(an (c8 (an (codeOf Tryz.f81) 1 58)) 116 935)) (E:=(an (codeOf Tryz.f81) 1 15)) (p3:=232) (pB:=3737) (p8:=935) (pE:=15) (g0:=128) (g1:=129) (g2:=130) (g3:=132) (c0:=fun ps=>sz (((ps,()),()),())) (c1:=fun ps=>sy (((ps,()),()),())) (c2:=fun ps=>sx (((ps,()),()),())) (c3:=fun ps=>sw (((ps,()),()),())) (mk:=qc) Z'
  {qA:=(by kernel_rfl),J9:=(by kernel_rfl),bc:=⟨(by kernel_rfl),(by kernel_rfl),(by kernel_rfl),(by kernel_rfl),(by kernel_rfl),(by kernel_rfl),(by kernel_rfl),(by kernel_rfl),(by kernel_rfl),(by kernel_rfl),(by kernel_rfl),(by kernel_rfl)⟩,LP:=⟨(by kernel_rfl),(by kernel_rfl)⟩,on:=⟨(by kernel_rfl),(by kernel_rfl),(by kernel_rfl)⟩,Cq:=⟨(by kernel_rfl),(by kernel_rfl),(by kernel_rfl)⟩,dst:=⟨(by kernel_rfl),(by kernel_rfl),(by kernel_rfl),(by kernel_rfl),(by kernel_rfl),(by kernel_rfl),(by kernel_rfl),(by kernel_rfl)⟩,IU:=(by decide),Kd:=(by kernel_rfl),YM:=(by kernel_rfl),YL:=(by kernel_rfl),wr:=(by kernel_rfl),aqJ:=(by kernel_rfl),
   kr:=⟨(fun f hf=>by cases hf),kX (by kernel_rfl) af,kX (by kernel_rfl) af,kX (by kernel_rfl) af⟩,hos:=(fun _ _=>rfl),ay:=(fun ps=>by kernel_rfl),vI:=(fun ps k i=>by kernel_rfl),hlt:=(fun ps k i=>by kernel_rfl),
   hB:=(fun gc h=>by
    simp only[List.mem_cons,List.not_mem_nil,or_false] at h;rcases h with rfl|rfl|rfl|rfl
    ·exact ak6
    ·exact ak5
    ·exact ak4
    ·exact ak3),
   h8:=(fun ps k i=>by kernel_rfl),hE:=(fun ps k i=>by kernel_rfl)} (fun ps=>rfl) (by kernel_rfl)
abbrev i81:Shape:=⟨[aH 0 .pack],[],24⟩
abbrev X8:Shape:=⟨[ad 2],[],24⟩
noncomputable def f81(a:i81.J):Option X8.J:=
(Is (((),()),(a.1.1,()),())).bind fun b=>
 some ((b.1.1,()),())
noncomputable def ZE:aF:=aK ah Tryz.f81 i81 X8 [] f81
theorem aqe:aE U 81 ZE:=aL Z' Tryz.func81 (by kernel_rfl) (bb alo af) (fun y=>by kernel_rfl) fun a=>by kernel_rfl
noncomputable abbrev atO:bg:=[(81,ZE)]
theorem aul:aW U (bd ah atO):=bc ⟨aqe,⟨⟩⟩
abbrev i43:Shape:=⟨[b_ 0 [b6 .pack]],[],7⟩
abbrev Yt:Shape:=⟨[ar 2],[],7⟩
noncomputable def f43(a:i43.J):Option Yt.J:=
(f81 ((a.1.1.1,()),())).bind fun b=>
 some (((b.1.1==(0:Int)),()),())
noncomputable def C0:aF:=aK ah Tryz.f43 i43 Yt [] f43
theorem J2:aE U 43 C0:=aL aul Tryz.func43 (by kernel_rfl) af (fun y=>by kernel_rfl) fun a=>by kernel_rfl
theorem afu(a)(hs:cv a.1.1.length):(∃(k:Nat) (q:ba),f160 a=some (((k:Int),()),())/\a.1.1[k]? =some q/\a.1.1.find? (fun p=>p.name==a.1.2.1)=some q)\/
  (f160 a=some ((((-1):Int),()),())/\a.1.1.find? (fun p=>p.name==a.1.2.1)=none):=by
 obtain⟨⟨ps,name,u⟩,b7⟩:=a;have hs:ps.length<=2097152:=hs;have key:∀(r:List ba) (k:Nat),ps.drop k=r->k<=ps.length->(∃(j:Nat) (q:ba),r3 ((ps,(name,((k:Int),()))),())=some (.inl (((j:Int),()),()))/\ps[j]? =some q/\r.find? (fun p=>p.name==name)=some q)\/
   (r3 ((ps,(name,((k:Int),()))),())=some (.inr ((),()))/\r.find? (fun p=>p.name==name)=none):=by
  intro r;induction r with
  |nil=>
   intro k hr hk;have:=drop_nil hr;have d1:decide ((k:Int)<(ps.length:Int))=false:=by simp only[decide_eq_false_iff_not];omega
   refine .inr ⟨ca ?_,rfl⟩;simp only[zP,d1,cond_false]
  |cons q r ih=>
   intro k hr hk;obtain⟨c1,c2,c3⟩:=drop_cons hr;have hw:am k:=by unfold am;omega
   have step:zP ((ps,(name,((k:Int),()))),())=some (bif q.name==name then .inr (.inl (((k:Int),()),())) else .inl ((ps,(name,(((k+1:Nat):Int),()))),())):=by
    simp only[zP,bZ c3,cond_true,bQ,c1,Option.bind_some,bK hw];cases (q.name==name)<;>rfl
   cases au:(q.name==name) with
   |true=>
    rw[au,cond_true] at step;exact .inl ⟨k,q,ca step,c1,by simp[List.find?_cons,au]⟩
   |false=>
    rw[au,cond_false] at step;rcases ih (k+1) c2 c3 with⟨j,fr,h1,h2,h3⟩|⟨h1,h2⟩
    ·exact .inl ⟨j,fr,(du step).trans h1,h2,by simp[List.find?_cons,au];exact h3⟩
    ·exact .inr ⟨(du step).trans h1,by simp only[List.find?_cons,au];exact h2⟩
 rcases key ps 0 rfl (Nat.zero_le _) with⟨j,q,h1,h2,h3⟩|⟨h1,h2⟩
 ·have h1:r3 ((ps,(name,((0:Int),()))),())=some (.inl (((j:Int),()),())):=h1;exact .inl ⟨j,q,by simp only[f160,h1,Option.bind_some],h2,h3⟩
 ·have h1:r3 ((ps,(name,((0:Int),()))),())=some (.inr ((),())):=h1;exact .inr ⟨by simp only[f160,h1,Option.bind_some],h2⟩
abbrev rj(ps:List ba):Prop:=∀p,p∈ps->p.aU.length<=2097151/\∀n,n∈p.bj->n.aU.length<=2097151
def iE(ps:List ba)(n:bB):Bool:=match ps.find? (fun q=>q.name==n.name) with
 |some q=>sR n q.aU
 |none=>false
def jA(ps:List ba)(n:bB):Bool:=ps.any fun q=>la n q.name q.aU
theorem adx(a)(hb:ir a.1.1)(hv:rj a.1.1):f110 a=some ((a.1.1.all (fun p=>p.bj.all (iE a.1.1)),()),()):=by
 obtain⟨⟨ps,u⟩,b7⟩:=a;have hl:ps.length<=2097152:=hb.1;have inner:∀(i:Nat) (p:ba),ps[i]? =some p->Em ((ps,((i:Int),((0:Int),()))),())=some (bif p.bj.all (iE ps) then .inr ((ps,((i:Int),())),()) else .inl ((false,()),())):=by
  intro i p hp;have ts:=List.mem_of_getElem? hp;have CH:p.bj.length<=2097152:=(hb.2 p ts).2.2.1.1;have:=fl x3 p.bj (fun k=>((ps,((i:Int),((k:Int),()))),())) (fun _ n=>iE ps n) (.inl ((false,()),())) (.inr ((ps,((i:Int),())),())) (fun k n hn=>?_) ?_
  ·have:=this;rw[fX] at this;exact this
  ·have hk:=ct hn;have hw:am k:=by unfold am;omega
   have kC:=List.mem_of_getElem? hn;have h8:=afu ((ps,(n.name,())),()) hl;simp only[x3,bQ,hp,Option.bind_some,bZ hk,cond_true,hn];rcases h8 with⟨j,q,h1,h2,h3⟩|⟨h1,h2⟩
   ·have h2:ps[j]? =some q:=h2;have h3:ps.find? (fun p=>p.name==n.name)=some q:=h3
    have au:=hv q (List.mem_of_getElem? h2);have hf:=afx (((n.name,(n.kind,(n.aU,()))),(n.name,(q.aU,()))),()) ((hv p ts).2 n kC) au.1 rfl;have hj:decide ((j:Int)<0)=false:=by simp only[decide_eq_false_iff_not];omega
    simp only[h1,Option.bind_some,xn,hj,cond_false,bQ,h2,hf,iE,h3,bK hw];cases sR n q.aU<;>rfl
   ·have h2:ps.find? (fun p=>p.name==n.name)=none:=h2
    have hj:decide ((-1:Int)<0)=true:=rfl;simp only[h1,Option.bind_some,xn,hj,cond_true,iE,h2,cond_false]
  ·simp only[x3,bQ,hp,Option.bind_some,cX,cond_false]
 have key:GQ ((ps,((0:Int),())),())=some (bif allI (fun _ p=>p.bj.all (iE ps)) 0 ps then .inr ((),()) else .inl ((false,()),())):=by
  refine fl z6 ps (fun i=>((ps,((i:Int),())),())) _ _ _ (fun i x hx=>?_) ?_
  ·have hi:=ct hx;have hw:am i:=by unfold am;omega
   simp only[z6,bZ hi,cond_true,inner i x hx,Option.bind_some];cases x.bj.all (iE ps)
   ·rfl
   ·simp only[cond_true,bK hw]
  ·simp only[z6,cX,cond_false]
 rw[fX] at key;simp only[f110,key,Option.bind_some];cases List.all ps (fun p=>p.bj.all (iE ps))<;>rfl
theorem aaL(a)(hb:ir a.1.1)(hv:rj a.1.1):f131 a=some ((a.1.1.all (fun p=>p.bj.all (jA a.1.1)),()),()):=by
 obtain⟨⟨ps,u⟩,b7⟩:=a;have hl:ps.length<=2097152:=hb.1;have hcon:∀n:bB,cv n.name.length->n.aU.length<=2097151->Ba ((ps,(((n.name,(n.kind,(n.aU,()))),()),())),())=some ((jA ps n,()),()):=by
  intro n hn1 ar2;have key:∀(r:List ba) (k:Nat),ps.drop k=r->k<=ps.length->∃z:Int,(rH ((ps,(((n.name,(n.kind,(n.aU,()))),()),((ps.length:Int),((k:Int),())))),())).bind (fun alk=>(match alk with
    |.inl alj=>some ((alj.1.1,()),())
    |.inr avT=>some ((((-1):Int),()),()):Option HK.J))=some ((z,()),())/\decide (z>=0)=r.any (fun q=>la n q.name q.aU):=by
   intro r;induction r with
   |nil=>
    intro k hr hk;have:=drop_nil hr;have d1:decide ((k:Int)<(ps.length:Int))=false:=by simp only[decide_eq_false_iff_not];omega
    have:rH ((ps,(((n.name,(n.kind,(n.aU,()))),()),((ps.length:Int),((k:Int),())))),())=some (.inr ((),())):=by
     refine ca ?_
     simp only[xY,d1,cond_false]
    exact⟨-1,by rw[this];rfl,rfl⟩
   |cons q r ih=>
    intro k hr hk;obtain⟨c1,c2,c3⟩:=drop_cons hr;have hw:am k:=by unfold am;omega
    have au:=hv q (List.mem_of_getElem? c1);have hf:=acu (((n.name,(n.kind,(n.aU,()))),(q.name,(q.aU,()))),()) hn1 ar2 au.1;have step:xY ((ps,(((n.name,(n.kind,(n.aU,()))),()),((ps.length:Int),((k:Int),())))),())=some (bif la n q.name q.aU then .inr (.inl (((k:Int),()),())) else .inl ((ps,(((n.name,(n.kind,(n.aU,()))),()),((ps.length:Int),(((k+1:Nat):Int),())))),())):=by
     simp only[xY,bZ c3,cond_true,bQ,c1,Option.bind_some,Ia,hf,bK hw];cases la n q.name q.aU<;>rfl
    rw[List.any_cons];cases Y_:la n q.name q.aU with
    |true=>
     rw[Y_,cond_true] at step;exact⟨k,by rw[show rH _=_ from ca step];rfl,by simp⟩
    |false=>
     rw[Y_,cond_false] at step;obtain⟨z,h1,h2⟩:=ih (k+1) c2 c3;exact⟨z,by rw[show rH _=_ from du step];exact h1,by rw[h2];rfl⟩
  obtain⟨z,h1,h2⟩:=key ps 0 rfl (Nat.zero_le _);have h3:A' ((ps,(((n.name,(n.kind,(n.aU,()))),()),())),())=some ((z,()),()):=by
   simp only[A'];exact h1
  simp only[Ba,h3,Option.bind_some,h2,jA]
 have inner:∀(i:Nat) (p:ba),ps[i]? =some p->Ej ((ps,(ps,((ps.length:Int),((i:Int),(p.bj,((p.bj.length:Int),((0:Int),()))))))),())=some (bif p.bj.all (jA ps) then .inr ((ps,(ps,((ps.length:Int),((i:Int),())))),()) else .inl ((false,()),())):=by
  intro i p hp;have ts:=List.mem_of_getElem? hp;have CH:p.bj.length<=2097152:=(hb.2 p ts).2.2.1.1;have:=fl x1 p.bj (fun k=>((ps,(ps,((ps.length:Int),((i:Int),(p.bj,((p.bj.length:Int),((k:Int),()))))))),())) (fun _ n=>jA ps n) (.inl ((false,()),())) (.inr ((ps,(ps,((ps.length:Int),((i:Int),())))),())) (fun k n hn=>?_) ?_
  ·have:=this;rw[fX] at this;exact this
  ·have hk:=ct hn;have hw:am k:=by unfold am;omega
   have kC:=List.mem_of_getElem? hn;have hc:=hcon n ((hb.2 p ts).2.2.1.2 n kC).1 ((hv p ts).2 n kC);simp only[x1,bZ hk,cond_true,bQ,hn,Option.bind_some,hc,bK hw];cases jA ps n<;>rfl
  ·simp only[x1,cX,cond_false]
 have key:GO ((ps,(ps,((ps.length:Int),((0:Int),())))),())=some (bif allI (fun _ p=>p.bj.all (jA ps)) 0 ps then .inr ((),()) else .inl ((false,()),())):=by
  refine fl zZ ps (fun i=>((ps,(ps,((ps.length:Int),((i:Int),())))),())) _ _ _ (fun i x hx=>?_) ?_
  ·have hi:=ct hx;have hw:am i:=by unfold am;omega
   simp only[zZ,bZ hi,cond_true,bQ,hx,inner i x hx,Option.bind_some];cases x.bj.all (jA ps)
   ·rfl
   ·simp only[cond_true,bK hw]
  ·simp only[zZ,cX,cond_false]
 rw[fX] at key;simp only[f131,key,Option.bind_some];cases List.all ps (fun p=>p.bj.all (jA ps))<;>rfl
theorem afh:∀ps:List ba,(∀i y,ps[i+1]? =some y->mD ps i y=true)->ps.Pairwise fun p q=>Op.bytesLess p.name q.name=true:=by
 intro ps;induction ps with
 |nil=>intro _;exact List.Pairwise.nil
 |cons x r ih=>
  intro h;have hr:=ih (fun i y hy=>by
   have:=h (i+1) y (by simpa using hy)
   unfold mD at this ⊢;simpa using this)
  refine List.pairwise_cons.2 ⟨fun y hy=>?_,hr⟩
  cases r with
  |nil=>cases hy
  |cons z r=>
   have hz:Op.bytesLess x.name z.name=true:=by
    have:=h 0 z rfl;unfold mD at this;simpa using this
   rcases List.mem_cons.1 hy with rfl|hy
   ·exact hz
   ·exact uC _ _ _ hz ((List.pairwise_cons.1 hr).1 y hy)
theorem ai8{ps:List ba}(h:je ps=true):ps.Pairwise fun p q=>Op.bytesLess p.name q.name=true:=by
 refine afh ps (fun i y hy=>?_)
 have:=yN ps.tail 0 h i y (by rw[List.getElem?_tail];exact hy)
 rwa[Nat.zero_add] at this
theorem abQ:∀(ps:List ba) (n:bB),(∀p,p∈ps->dZ p.aU=true)->dv n=true->ps.Pairwise (fun p q=>Op.bytesLess p.name q.name=true)->jA ps n=iE ps n:=by
 intro ps n;induction ps with
 |nil=>intro _ _ _;rfl
 |cons q r ih=>
  intro hv hn hp;have CG:=List.pairwise_cons.1 hp;have ih:=ih (fun p h=>hv p (List.mem_cons_of_mem _ h)) hn CG.2
  unfold jA iE at ih ⊢;rw[List.any_cons,List.find?_cons];cases au:(q.name==n.name) with
  |true=>
   have hno:r.any (fun q=>la n q.name q.aU)=false:=by
    rw[List.any_eq_false];intro p arU;have h1:=CG.1 p arU;rw[eq_of_beq au] at h1;have:(p.name==n.name)=false:=by
     cases h:(p.name==n.name) with
     |false=>rfl
     |true=>rw[eq_of_beq h,Bf] at h1;cases h1
    unfold la;rw[this];simp
   rw[hno];unfold la;rw[hv q List.mem_cons_self,hn,au];simp
  |false=>
   have:la n q.name q.aU=false:=by unfold la;rw[au];simp
   rw[this,Bool.false_or];exact ih
def jU(ps:List ba):Bool:=ps.all cu&&je ps&&decide (ps.length<=5)&&ps.all (fun p=>p.bj.all (iE ps))&&(gK [] ps).isSome
def BE(ps:List ba):Int:=bif ps.all cu&&je ps then(bif decide (ps.length<=5) then(bif ps.all (fun p=>p.bj.all (iE ps)) then(bif(gK [] ps).isSome then 0 else 5) else 4) else 6) else 1
theorem abF(ps:List ba):jU ps=(BE ps==0):=by
 unfold jU BE;cases ps.all cu<;>cases je ps<;>cases decide (ps.length<=5)<;>cases ps.all (fun p=>p.bj.all (iE ps))<;>cases (gK [] ps).isSome<;>rfl
theorem adl{ax:Type}(ok:Nat->ax->Bool):∀(xs:List ax) (j:Nat),allI ok (j+1) xs=allI (fun i=>ok (i+1)) j xs:=by
 intro xs;induction xs with
 |nil=>intro j;rfl
 |cons x r ih=>intro j;simp only[allI,ih]
def tk(ps:List ba)(i:Nat)(x:ba):Bool:=cu x&&(i==0||mD ps (i-1) x)
theorem QW(ps:List ba):allI (tk ps) 0 ps=(ps.all cu&&je ps):=by
 unfold tk;rw[yO,fX];congr 1
 unfold je;cases ps with
 |nil=>rfl
 |cons x r=>
  simp only[allI,beq_self_eq_true,Bool.true_or,Bool.true_and,List.tail_cons];rw[adl];refine NU r 0 (fun i y _ _=>?_)
  have:(i+1==0)=false:=rfl;rw[this,Bool.false_or,Nat.add_sub_cancel]
theorem Pb(a)(hb:ir a.1.1.1)(hv:rj a.1.1.1):f30 a=some ((jU a.1.1.1,()),()):=by
 obtain⟨⟨⟨ps,u⟩,b7⟩,ln⟩:=a;have hl:ps.length<=2097152:=hb.1;have key:HY ((ps,((0:Int),())),())=some (bif allI (tk ps) 0 ps then .inr ((ps,()),()) else .inl (((1:Int),()),())):=by
  refine fl A1 ps (fun i=>((ps,((i:Int),())),())) _ _ _ (fun i x hx=>?_) ?_
  ·have hi:=ct hx;have hw:am i:=by unfold am;omega
   have wH:=hb.2 x (List.mem_of_getElem? hx);simp only[A1,bZ hi,cond_true,G2,bQ,hx,Option.bind_some];rw[x_ _ wH];simp only[Option.bind_some,tk,B2];cases cu x with
   |false=>rfl
   |true=>
    simp only[Bool.not_true,cond_false,Bool.true_and,mD];cases i with
    |zero=>simp only[beq_self_eq_true,Bool.not_true,cond_false,Option.bind_some,Bool.true_or,cond_true,bK hw]
    |succ i=>
     have h0:(i+1==0)=false:=rfl;have jn:i<ps.length:=by omega
     obtain⟨q,au⟩:∃q,ps[i]? =some q:=⟨ps[i],List.getElem?_eq_getElem jn⟩;simp only[h0,Bool.not_false,cond_true,uk (i:=i) (by unfold am;omega),bQ,au,hx,Option.bind_some,Bool.false_or,Nat.add_sub_cancel]
     cases Op.bytesLess q.name x.name with
     |false=>rfl
     |true=>simp only[Bool.not_true,cond_false,cond_true,bK hw]
  ·simp only[A1,cX,cond_false]
 rw[QW] at key;have bo:decide ((ps.length:Int)>5)=!decide (ps.length<=5):=by by_cases h:ps.length<=5<;>simp only[h,decide_true,decide_false,Bool.not_true,Bool.not_false,decide_eq_true_eq,decide_eq_false_iff_not]<;>omega
 simp only[f30,f60,key,Option.bind_some,jU];cases dR:(ps.all cu&&je ps) with
 |false=>rfl
 |true=>
  have hk:ps.all cu=true:=by simp only[Bool.and_eq_true] at dR;exact dR.1
  obtain⟨out,aq⟩:=aft ((ps,()),()) hb hk;have hn:=adx ((ps,()),()) hb hv;simp only[cond_true,Option.bind_some,aq,bo,Bool.true_and];cases decide (ps.length<=5) with
  |false=>rfl
  |true=>
   simp only[Bool.not_true,cond_false,hn,Option.bind_some,Bool.true_and];cases ps.all (fun p=>p.bj.all (iE ps))<;>cases (gK [] ps).isSome<;>rfl
theorem acj(a)(hb:ir a.1.1)(hv:rj a.1.1):f81 a=some ((BE a.1.1,()),()):=by
 obtain⟨⟨ps,u⟩,b7⟩:=a;have hl:ps.length<=2097152:=hb.1;have e1:=NY ((ps,((),())),()) hb;have e2:=ME ((ps,()),()) hl;have bz:=aaL ((ps,()),()) hb hv;have bo:decide ((ps.length:Int)>5)=!decide (ps.length<=5):=by by_cases h:ps.length<=5<;>simp only[h,decide_true,decide_false,Bool.not_true,Bool.not_false,decide_eq_true_eq,decide_eq_false_iff_not]<;>omega
 have c0:sz (((ps,()),()),())=some (((bif ps.all cu&&je ps then(0:Int) else 1),()),()):=by
  simp only[sz,Ex,e1,Bool.not_not,Option.bind_some];cases ps.all cu with
  |false=>rfl
  |true=>simp only[cond_true,e2,Option.bind_some,Bool.true_and];cases je ps<;>rfl
 have c1:sy (((ps,()),()),())=some (((bif decide (ps.length<=5) then(0:Int) else 6),()),()):=by
  simp only[sy,bo];cases decide (ps.length<=5)<;>rfl
 have c2:sx (((ps,()),()),())=some (((bif ps.all (fun p=>p.bj.all (jA ps)) then(0:Int) else 4),()),()):=by
  simp only[sx,bz,Option.bind_some];cases ps.all (fun p=>p.bj.all (jA ps))<;>rfl
 have c3:ps.all cu=true->sw (((ps,()),()),())=some (((bif(gK [] ps).isSome then(0:Int) else 5),()),()):=by
  intro hk;obtain⟨out,aq⟩:=abq ((ps,()),()) hb hk;simp only[sw,aq,Option.bind_some];cases (gK [] ps).isSome<;>rfl
 have z:∀n:Int,((n:Int) !=0)=!(n==0):=fun n=>rfl
 simp only[f81,Is,qa,c0,c1,c2,qc,Option.bind_some,BE];cases dR:(ps.all cu&&je ps) with
 |false=>rfl
 |true=>
  simp only[Bool.and_eq_true] at dR;have aks:ps.all (fun p=>p.bj.all (jA ps))=ps.all (fun p=>p.bj.all (iE ps)):=by
   rw[Bool.eq_iff_iff];simp only[List.all_eq_true];have hvs:∀p,p∈ps->dZ p.aU=true:=fun p hp=>by
    have:=List.all_eq_true.1 dR.1 p hp;unfold cu at this;simp only[Bool.and_eq_true] at this;exact this.1.1.2
   have hns:∀p,p∈ps->∀n,n∈p.bj->jA ps n=iE ps n:=fun p hp n hn=>by
    have:=List.all_eq_true.1 dR.1 p hp;unfold cu pW at this;simp only[Bool.and_eq_true] at this;exact abQ ps n hvs (List.all_eq_true.1 this.1.2.1.1 n hn) (ai8 dR.2)
   constructor
   ·intro h p hp n hn;rw[<-hns p hp n hn];exact h p hp n hn
   ·intro h p hp n hn;rw[hns p hp n hn];exact h p hp n hn
  rw[aks,c3 dR.1];cases decide (ps.length<=5)<;>cases ps.all (fun p=>p.bj.all (iE ps))<;>cases (gK [] ps).isSome<;>rfl
theorem NX(a)(hb:ir a.1.1.1)(hv:rj a.1.1.1):f43 a=some ((jU a.1.1.1,()),()):=by
 obtain⟨⟨⟨ps,u⟩,b7⟩,ln⟩:=a;have e:=acj ((ps,()),()) hb hv;simp only[f43,e,Option.bind_some,abF]
abbrev i217:Shape:=⟨[(0,.ak (.d (.int .u32))),ad 1],[],17⟩
abbrev Ud:Shape:=⟨[(4,.ak (.d (.int .u32)))],[],17⟩
noncomputable def f217(a:i217.J):Option Ud.J:=
(lh .u32 a.1.1 (ev .u64 (IntKind.u64.wrap a.1.2.1) (31:Int))).bind fun b=>
(e9 .u32 a.1.1 (IntKind.u64.wrap ((32:Int)-(ev .u64 (IntKind.u64.wrap a.1.2.1) (31:Int))))).bind fun c=>
 some (((hM .u32 b c),()),())
noncomputable def Wf:aF:=aK ah Tryz.f217 i217 Ud [] f217
theorem amp:aE U 217 Wf:=aL g0 Tryz.func217 (by kernel_rfl) af (fun y=>by kernel_rfl) fun a=>by kernel_rfl
noncomputable abbrev aoT:bg:=[(217,Wf)]
theorem apP:aW U (bd ah aoT):=bc ⟨amp,⟨⟩⟩
abbrev i171:Shape:=⟨[(0,.ak (.d (.int .u32))),ad 1],[],9⟩
abbrev UG:Shape:=⟨[(4,.ak (.d (.int .u32)))],[],9⟩
noncomputable def f171(a:i171.J):Option UG.J:=
(f217 ((a.1.1,(IntKind.i64.wrap (0-a.1.2.1)),()),())).bind fun b=>
 some ((b.1.1,()),())
noncomputable def WD:aF:=aK ah Tryz.f171 i171 UG [] f171
theorem z171:aE U 171 WD:=aL apP Tryz.func171 (by kernel_rfl) af (fun y=>by kernel_rfl) fun a=>by kernel_rfl
abbrev i278:Shape:=⟨[(0,.ak (.d (.int .u32))),ad 1],[],13⟩
abbrev TW:Shape:=⟨[(4,.ak (.d (.int .u32)))],[],13⟩
noncomputable def f278(a:i278.J):Option TW.J:=
(e9 .u32 a.1.1 a.1.2.1).bind fun b=>
(lh .u32 a.1.1 (IntKind.i64.wrap ((32:Int)-a.1.2.1))).bind fun c=>
 some (((hM .u32 b c),()),())
noncomputable def Jq:aF:=aK ah Tryz.f278 i278 TW [] f278
theorem Tu:aE U 278 Jq:=aL g0 Tryz.func278 (by kernel_rfl) af (fun y=>by kernel_rfl) fun a=>by kernel_rfl
noncomputable abbrev aoo:bg:=[(278,Jq)]
theorem JM:aW U (bd ah aoo):=bc ⟨Tu,⟨⟩⟩
abbrev yX:Shape:=⟨[aH 0 .u8,bf 3 3000192,ad 4],[be 3000192 .u32 3 0],100⟩
abbrev FR:List aN:=[(.exit 0,⟨[bf 3 3000192],[be 3000192 .u32 3 0],100⟩)]
noncomputable def G4(y:yX.J):bJ yX FR:=
 bif(decide (y.1.2.2.1<(16:Int))) then
(aP y.1.1 (IntKind.i64.wrap ((4:Int)*y.1.2.2.1))).bind fun a=>
(lh .u32 (IntKind.u32.wrap a) (24:Int)).bind fun b=>
(aP y.1.1 (IntKind.i64.wrap ((IntKind.i64.wrap ((4:Int)*y.1.2.2.1))+(1:Int)))).bind fun c=>
(lh .u32 (IntKind.u32.wrap c) (16:Int)).bind fun d=>
(aP y.1.1 (IntKind.i64.wrap ((IntKind.i64.wrap ((4:Int)*y.1.2.2.1))+(2:Int)))).bind fun e=>
(lh .u32 (IntKind.u32.wrap e) (8:Int)).bind fun f=>
(aP y.1.1 (IntKind.i64.wrap ((IntKind.i64.wrap ((4:Int)*y.1.2.2.1))+(3:Int)))).bind fun g=>
(cy 4 y.2.1 ([(hM .u32 (hM .u32 (hM .u32 b d) f) (IntKind.u32.wrap g))]:List Int)).bind fun h=>
 some (.inl ((y.1.1,(),(IntKind.i64.wrap (y.1.2.2.1+(1:Int))),()),h,()))
else
 some (.inr (((),()),y.2.1,()))
noncomputable def Gu:yX.J->Option (aw FR):=bn G4
theorem ahR:aT U (an (codeOf Tryz.f276) 1 58) (a6 yX FR Gu):=bN JM (by kernel_rfl) af fun y=>by kernel_rfl
abbrev yf:Shape:=⟨[bf 3 3000192,ad 5],[be 3000192 .u32 3 0],100⟩
abbrev EK:List aN:=[(.exit 2,⟨[bf 3 3000192],[be 3000192 .u32 3 0],100⟩)]
noncomputable def Fv(y:yf.J):bJ yf EK:=
 bif(decide (y.1.2.1<(64:Int))) then
(a_ y.2.1.length (IntKind.i64.wrap (y.1.2.1-(15:Int)))).bind fun a=>
(y.2.1[a]?).bind fun b=>
(a_ y.2.1.length (IntKind.i64.wrap (y.1.2.1-(2:Int)))).bind fun c=>
(y.2.1[c]?).bind fun d=>
(f278 ((b,(7:Int),()),())).bind fun e=>
(f278 ((b,(18:Int),()),())).bind fun f=>
(e9 .u32 b (3:Int)).bind fun g=>
(f278 ((d,(17:Int),()),())).bind fun h=>
(f278 ((d,(19:Int),()),())).bind fun i=>
(e9 .u32 d (10:Int)).bind fun j=>
(a_ y.2.1.length (IntKind.i64.wrap (y.1.2.1-(16:Int)))).bind fun k=>
(y.2.1[k]?).bind fun l=>
(a_ y.2.1.length (IntKind.i64.wrap (y.1.2.1-(7:Int)))).bind fun m=>
(y.2.1[m]?).bind fun n=>
(cy 4 y.2.1 ([(IntKind.u32.wrap ((IntKind.u32.wrap ((IntKind.u32.wrap (l+(dl .u32 (dl .u32 e.1.1 f.1.1) g)))+n))+(dl .u32 (dl .u32 h.1.1 i.1.1) j)))]:List Int)).bind fun B=>
 some (.inl (((),(IntKind.i64.wrap (y.1.2.1+(1:Int))),()),B,()))
else
 some (.inr (((),()),y.2.1,()))
noncomputable def Fa:yf.J->Option (aw EK):=bn Fv
theorem agc:aT U (an (codeOf Tryz.f276) 1 122) (a6 yf EK Fa):=bN JM (by kernel_rfl) af fun y=>by kernel_rfl
abbrev i276:Shape:=⟨[aH 0 .u8],[],100⟩
abbrev TY:Shape:=⟨[bf 2 3000128],[be 3000128 .u32 2 0],100⟩
noncomputable def f276(a:i276.J):Option TY.J:=
(jj 4 (0:Int) (64:Int) (0:Int)).bind fun b=>
(Gu ((a.1.1,(),(0:Int),()),b,())).bind fun c=>
(Fa (((),(16:Int),()),c.2.1,())).bind fun d=>
 some (((),()),d.2.1,())
noncomputable def V1:aF:=aK ah Tryz.f276 i276 TY [] f276
theorem amd:aE U 276 V1:=aL JM Tryz.func276 (by kernel_rfl) (bb ahR (bb agc af)) (fun y=>by kernel_rfl) fun a=>by kernel_rfl
end Go.Proofs
