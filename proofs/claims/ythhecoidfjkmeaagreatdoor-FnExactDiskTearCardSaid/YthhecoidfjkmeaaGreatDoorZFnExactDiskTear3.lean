/- FnExactDiskTear: the program's DiskTear returns what the reference's returns, for all arguments. (part 4 of 7: JkKTy, JkKSp, JkKOp, JkKBc, JkKEn, JkKF115, JkKF74, JkKF75, JkKF87, JkKF99, JkKPuA, JkKF73, JkKPuB, JkKFH271, JkKF244, JkKF209, JkKF212, JkKIt, JkKF151, JkKF100, JkKF102, JkKF140, JkKF88, JkKF192, JkK) Conditions: none beyond the statement. -/
import Derived.Test.YthhecoidfjkmeaaGreatDoorZFnExactDiskTear2
import Derived.Tactics
import Derived.Deep.RegionLaw
import Derived.Shelf.Abstract
import Derived.Test.YthhecoidfjkmeaaGreatDoorProg
import Derived.KernelRfl
import Derived.Lib.Builder
import Derived.Lib.UnsafeStr
import Derived.WalkKit
import Derived.Shelf.RegionOpenPlain
set_option linter.unusedSimpArgs false
set_option maxRecDepth 100000
set_option linter.unusedVariables false
namespace Go.Proofs
open Go.Jk
noncomputable abbrev U:Program:=Tryz.prog
noncomputable def aoZ:List (Nat×b_):=[
(2,.int .i64),
(3,.int .i64),
(4,.bool),
(5,.int .u8),
(6,.int .u8),
(7,.struct [(0,1),(1,1),(2,1),(3,1)] 4 [.d (.int .i64 0),.d (.int .i64 0),.d (.bool false),.d (.int .u8 0)] false),
(8,.struct [(0,1),(1,1),(2,1),(3,1)] 4 [.d (.int .i64 0),.d (.int .i64 0),.d (.bool false),.d (.int .u8 0)] false),
(9,.str),
(10,.str),
(11,.str),
(12,.int .u64),
(13,.struct [(0,1),(1,1)] 2 [.d (.str []),.d (.int .u64 0)] false),
(14,.struct [(0,1),(1,1)] 2 [.d (.str []),.d (.int .u64 0)] false),
(15,.ptr),
(16,.ptr),
(17,.ptr),
(18,.struct [(0,1)] 1 [.cP (.pointer none)] false),
(19,.struct [(0,1)] 1 [.cP (.pointer none)] false),
(20,.iface),
(21,.int .i32),
(22,.struct [(0,1),(1,1)] 2 [.d (.str []),.d (.str [])] false),
(23,.struct [(0,1),(1,1)] 2 [.d (.str []),.d (.str [])] false),
(26,.struct [(0,1),(1,1)] 2 [.d (.str []),.d (.str [])] false),
(29,.slice 115 .pack 80),
(30,.struct [(0,1)] 1 [.nil .pack] false),
(31,.struct [(0,1)] 1 [.nil .pack] false),
(34,.slice 66 .pack 80),
(35,.struct [(0,1)] 1 [.nil .pack] false),
(36,.struct [(0,1)] 1 [.nil .pack] false),
(41,.slice 120 .file 32),
(42,.struct [(0,1),(1,1),(2,2)] 4 [.nil .file,.nil .pack,.d (.str []),.d (.str [])] false),
(43,.struct [(0,1),(1,1),(2,2)] 4 [.nil .file,.nil .pack,.d (.str []),.d (.str [])] false),
(46,.slice 124 .file 32),
(47,.struct [(0,1),(1,1),(2,2)] 4 [.nil .file,.nil .pack,.d (.str []),.d (.str [])] false),
(48,.struct [(0,1),(1,1),(2,2)] 4 [.nil .file,.nil .pack,.d (.str []),.d (.str [])] false),
(52,.slice 5 .u8 1),
(63,.slice 133 .need 40),
(64,.slice 178 .entry 48),
(65,.struct [(0,1),(1,1),(2,1),(3,1)] 4 [.d (.str []),.d (.str []),.nil .need,.nil .entry] false),
(66,.struct [(0,1),(1,1),(2,1),(3,1)] 4 [.d (.str []),.d (.str []),.nil .need,.nil .entry] false),
(84,.ptr),
(89,.ptr),
(90,.struct [(0,1),(1,1)] 2 [.cP (.pointer none),.nil .u8] false),
(91,.struct [(0,1),(1,1)] 2 [.cP (.pointer none),.nil .u8] false),
(92,.iface),
(93,.iface),
(103,.slice 9 .str 16),
(109,.slice 3 .i64 8),
(112,.slice 209 .need 40),
(113,.slice 211 .entry 48),
(114,.struct [(0,1),(1,1),(2,1),(3,1)] 4 [.d (.str []),.d (.str []),.nil .need,.nil .entry] false),
(115,.struct [(0,1),(1,1),(2,1),(3,1)] 4 [.d (.str []),.d (.str []),.nil .need,.nil .entry] false),
(119,.struct [(0,1),(1,1)] 2 [.d (.str []),.d (.str [])] false),
(120,.struct [(0,1),(1,1)] 2 [.d (.str []),.d (.str [])] true),
(124,.struct [(0,1),(1,1)] 2 [.d (.str []),.d (.str [])] true),
(132,.struct [(0,1),(1,1),(2,1)] 3 [.d (.str []),.d (.int .i64 0),.d (.str [])] false),
(133,.struct [(0,1),(1,1),(2,1)] 3 [.d (.str []),.d (.int .i64 0),.d (.str [])] true),
(140,.struct [(0,1),(1,1)] 2 [.nil .u8,.d (.int .i64 0)] false),
(141,.struct [(0,1),(1,1)] 2 [.nil .u8,.d (.int .i64 0)] false),
(144,.ptr),
(153,.int .u32),
(154,.arr 153 .u32 8),
(155,.int .u64),
(157,.slice 153 .u32 4),
(164,.func),
(177,.struct [(0,1),(1,1),(2,1),(3,1)] 4 [.d (.str []),.d (.int .i64 0),.d (.int .i64 0),.d (.str [])] false),
(178,.struct [(0,1),(1,1),(2,1),(3,1)] 4 [.d (.str []),.d (.int .i64 0),.d (.int .i64 0),.d (.str [])] true),
(183,.slice 3 .i64 8),
(202,.arr 153 .u32 64),
(203,.int .u64),
(209,.struct [(0,1),(1,1),(2,1)] 3 [.d (.str []),.d (.int .i64 0),.d (.str [])] true),
(211,.struct [(0,1),(1,1),(2,1),(3,1)] 4 [.d (.str []),.d (.int .i64 0),.d (.int .i64 0),.d (.str [])] true),
(251,.arr 4 .bool 256),
(252,.arr 4 .bool 256),
(264,.ptr),
(271,.struct [(0,1),(1,1)] 2 [.d (.int .u8 0),.d (.int .u8 0)] false),
(272,.struct [(0,1),(1,1)] 2 [.d (.int .u8 0),.d (.int .u8 0)] false),
(277,.struct [(0,1),(1,1),(2,1),(3,1)] 4 [.cP (.pointer none),.cP (.pointer none),.cP (.pointer none),.d (.str [])] false),
(278,.struct [(0,1),(1,1),(2,1),(3,1)] 4 [.cP (.pointer none),.cP (.pointer none),.cP (.pointer none),.d (.str [])] false),
(282,.int .u8),
(283,.int .u8),
(285,.int .i32),
(286,.int .i32),
(287,.struct [(0,1),(1,1),(2,1),(3,1),(4,1),(5,1),(6,1),(7,1),(8,1),(9,1),(10,1)] 11 [.d (.int .u64 0),.d (.int .u64 0),.d (.int .u32 0),.d (.int .u8 0),.d (.int .u8 0),.d (.int .u8 0),.d (.int .u8 0),.cP .nilFunc,.cP (.pointer none),.d (.int .i32 0),.d (.int .i32 0)] false),
(288,.struct [(0,1),(1,1),(2,1),(3,1),(4,1),(5,1),(6,1),(7,1),(8,1),(9,1),(10,1)] 11 [.d (.int .u64 0),.d (.int .u64 0),.d (.int .u32 0),.d (.int .u8 0),.d (.int .u8 0),.d (.int .u8 0),.d (.int .u8 0),.cP .nilFunc,.cP (.pointer none),.d (.int .i32 0),.d (.int .i32 0)] false)]
noncomputable def tt:TypeId->b_:=Bk aoZ
noncomputable def aj:Env:=⟨tt,[(198,266)],[230],[59],[112],[65],[(0,⟨.u32,il⟩)]⟩
abbrev bR(s:Shape)(t:List aO):=Option (Sum s.J (aD t))
theorem ajf(s p:ByteArray)(k:Int)(w:World):Calls U 232 #[.string s,.string p,.int .i64 k] w fun e w'=>
  e=.returned (.func (.func 266) #[] #[.pointer (some ⟨w.heap.size+1,0,none⟩),.pointer (some ⟨w.heap.size,0,none⟩),.pointer (some ⟨w.heap.size+2,0,none⟩)])/\
  w'=((w.alloc (.cells #[.string s] 9)).alloc (.cells #[.string p] 9)).alloc (.cells #[.int .i64 k] 3):=by
 go_enter Tryz.func232,Tryz.ntmps232
 go_wp2
 go_ret
 exact⟨rfl,rfl⟩
theorem ajg(s p:ByteArray)(w:World):Calls U 198 #[.string s,.string p] w fun e w'=>
  e=.returned (.func (.func 266) #[] #[.pointer (some ⟨w.heap.size+1,0,none⟩),.pointer (some ⟨w.heap.size,0,none⟩),.pointer (some ⟨w.heap.size+2,0,none⟩)])/\
  w'=((w.alloc (.cells #[.string s] 9)).alloc (.cells #[.string p] 9)).alloc (.cells #[.int .i64 0] 3):=by
 go_enter Tryz.func198,Tryz.ntmps198
 go_wp2_with (go_at_call 232;refine(ajf _ _ _ _).mono ?_;rintro e w' ⟨rfl,rfl⟩)
 go_ret
 exact⟨rfl,rfl⟩
theorem ak7:zR U 198 266:=fun a b w=>.inl ⟨enters_of Tryz.func198 (by kernel_rfl) rfl _ _,(ajg a b w).mono fun e w' h=>by obtain⟨rfl,rfl⟩:=h;exact⟨9,3,rfl,rfl⟩⟩
theorem ape(w:World):Calls U 59 #[.slice none 0 0] w fun e w'=>e=.returned (.pointer (some ⟨w.heap.size,0,none⟩))/\w'=w.alloc (.cells #[.slice none 0 0,.int .i64 0] 141):=by
 go_enter Tryz.func59,Tryz.ntmps59
 go_wp2
 go_ret
 exact⟨rfl,rfl⟩
theorem apd(w:World)(a:Addr)(n c:Nat)(h:n<=2000):Calls U 59 #[.slice (some a) n c] w fun e w'=>e=.returned (.pointer (some ⟨w.heap.size,0,none⟩))/\w'=w.alloc (.cells #[.slice (some a) n c,.int .i64 0] 141):=by
 have h1:¬((n:Int)>2000):=by omega
 go_enter Tryz.func59,Tryz.ntmps59
 go_wp2
 go_ret
 exact⟨rfl,rfl⟩
theorem apf(w:World)(a:Addr)(n c:Nat)(h:2000<n)(hc:n<=c):Calls U 59 #[.slice (some a) n c] w fun e w'=>e=.returned (.pointer (some ⟨w.heap.size,0,none⟩))/\w'=w.alloc (.cells #[.slice (some a) 2000 c,.int .i64 0] 141):=by
 have h1:((n:Int)>2000):=by omega
 go_enter Tryz.func59,Tryz.ntmps59
 go_wp2
 go_ret
 exact⟨rfl,rfl⟩
theorem alC:AR U 59:=fun xs v w av hr=>.inl ⟨enters_of Tryz.func59 (by kernel_rfl) rfl _ _,by
 have fin:∀{v:Value} {u:Value},bD w av (.sl .u8 (xs.take 2000)) u->Calls U 59 #[v] w (fun e w'=>e=.returned (.pointer (some ⟨w.heap.size,0,none⟩))/\w'=w.alloc (.cells #[u,.int .i64 0] 141))->
   Calls U 59 #[v] w fun e w'=>match e,w' with
    |.returned v',w'=>∃u T,bD w av (.sl .u8 (xs.take 2000)) u/\v'=.pointer (some ⟨w.heap.size,0,none⟩)/\w'=w.alloc (.cells #[u,.int .i64 0] T)
    |_,_=>False:=fun hu hc=>hc.mono fun e w' h=>by obtain⟨rfl,rfl⟩:=h;exact⟨_,_,hu,rfl,rfl⟩
 cases hr with
 |nil=>exact fin (.nil .u8) (ape w)
 |sl t xs a cap cs n hn hcap hb hl hc hr=>
  by_cases h:2000<n
  ·refine fin (u:=.slice (some a) 2000 cap) ?_ (apf w a n cap h hcap);have hlen:(xs.take 2000).length=2000:=by simp only[List.length_take];omega
   have hf:flat .u8 (xs.take 2000)=(flat .u8 xs).take 2000:=by rw[mo];rfl
   refine .sl .u8 (xs.take 2000) a cap (cs.take 2000) 2000 hlen.symm (by omega) (fun hx=>hb (fun e=>hx (by rw[e];rfl))) (by rw[hf,List.length_take,List.length_take,hl]) (fun j u hu=>?_) (fun j h1 h2=>?_)
   ·rw[List.getElem?_take] at hu;split at hu
    ·exact hc j u hu
    ·cases hu
   ·have h1':j<(flat .u8 xs).length:=by rw[hf,List.length_take] at h1;omega
    have h2':j<cs.length:=by rw[List.length_take] at h2;omega
    have e1:(flat .u8 (xs.take 2000))[j]=(flat .u8 xs)[j]:=by simp only[hf,List.getElem_take]
    have e2:(cs.take 2000)[j]=cs[j]:=List.getElem_take;rw[e1,e2];exact hr j h1' h2'
  ·refine fin (u:=.slice (some a) n cap) ?_ (apd w a n cap (by omega))
   rw[List.take_of_length_le (by omega)]
   exact .sl .u8 xs a cap cs n hn hcap hb hl hc hr⟩
set_option maxHeartbeats 1000000 in
theorem aiM(b:Nat)(w:World)(h0:w.cell? ⟨b,0,none⟩=some (.pointer (some ⟨b,0,none⟩))):
  Calls U 112 #[.pointer (some ⟨b,0,none⟩)] w fun e w'=>e=.returned (.tuple #[])/\w'=w:=by
 obtain⟨j,hj,_⟩:=Option.map_eq_some_iff.1 (show(U.info? 91).map (·.size)=some 2 by kernel_rfl)
 go_enter Tryz.func112,Tryz.ntmps112
 go_wp2
 rw[Lib.run_neq_ptr_same w _ (show U.underlying 89=some (.pointer 91) by kernel_rfl) hj]
 go_wp2
 go_end0
 exact⟨rfl,rfl⟩
set_option maxHeartbeats 1000000 in
theorem ahk(b:Nat)(w:World)(h0:w.cell? ⟨b,0,none⟩=some (.pointer none))(hsh:w.shape? b=some (91,2))(hfz:w.frozen? ⟨b,0,none⟩=false):
  Calls U 112 #[.pointer (some ⟨b,0,none⟩)] w fun e w'=>e=.returned (.tuple #[])/\w'=w.setCell ⟨b,0,none⟩ (.pointer (some ⟨b,0,none⟩)):=by
 obtain⟨j,hj,hjs⟩:=Option.map_eq_some_iff.1 (show(U.info? 91).map (·.size)=some 2 by kernel_rfl)
 go_enter Tryz.func112,Tryz.ntmps112
 go_wp2
 rw[Lib.run_to_unsafe w ⟨b,0,none⟩ (show U.underlying 89=some (.pointer 91) by kernel_rfl) (show U.underlying 193=some .unsafePointer by kernel_rfl) hj (by rw[hjs];decide) hsh (Nat.zero_lt_succ 1)]
 simp only[Result.andThen];rw[Oper.upon_value]
 go_wp2
 rw[run_callFunc_extern Tryz.func164 (by kernel_rfl) (by kernel_rfl) (by kernel_rfl) (e:=Extern.AbiNoEscape.same) (by kernel_rfl)]
 rw[Lib.run_noEscape];simp only[Result.andThen];rw[Oper.upon_value]
 go_wp2
 rw[Lib.run_from_unsafe w ⟨b,0,none⟩ (show U.underlying 193=some .unsafePointer by kernel_rfl) (show U.underlying 89=some (.pointer 91) by kernel_rfl) hj hsh (by kernel_rfl)]
 simp only[Result.andThen];rw[Oper.upon_value]
 go_wp2
 go_end0
 exact⟨rfl,rfl⟩
theorem aj0:AS U 112:=by
 intro b p v w hb hp;refine .inl ⟨enters_of Tryz.func112 (by kernel_rfl) rfl _ _,?_⟩
 rcases hp with rfl|rfl
 ·refine(ahk b w (by rw[Lib.cell_of_heap hb];rfl) (by simp[World.shape?,hb];rfl) (by simp[World.frozen?,hb])).mono ?_
  rintro e w' ⟨rfl,rfl⟩;refine⟨rfl,?_⟩;rw[setCell_eq_setRow w b 0 _ _ _ _ hb];rfl
 ·refine(aiM b w (by rw[Lib.cell_of_heap hb];rfl)).mono ?_
  rintro e w' ⟨rfl,rfl⟩;exact⟨rfl,(setRow_self w' b _ _ _ hb).symm⟩
section
variable {P:Program}(w:World)
theorem LN:∀(xs:List Int) (a:Addr) (acc:ByteArray),(∀j x,xs[j]? =some x->w.cell? (a.add j)=some (.int .u8 x))->
  (loadBytes a acc xs.length).run P w=.ok ⟨acc.data++(strOf xs).toArray⟩ w
 |[],a,acc,_=>by simp[loadBytes,strOf]
 |x::l,a,acc,h=>by
  have h0:w.cell? a=some (.int .u8 x):=by
   have:=h 0 x rfl;simpa[Addr.add] using this
  have ih:=LN l (a.add 1) (acc.push (UInt8.ofNat x.toNat)) (fun j y hy=>by
   have:=h (j+1) y (by simpa using hy)
   have e:(a.add 1).add j=a.add (j+1):=by
    unfold Addr.add;by_cases hj:j=0
    ·subst hj;simp
    ·simp[hj];omega
   rw[e];exact this)
  have hx:(x.toNat).toUInt8=UInt8.ofNat x.toNat:=rfl;simp only[List.length_cons,loadBytes,Sem.run_bind,run_load,h0,Result.andThen,hx];rw[ih];congr 1
  apply ByteArray.ext;simp[ByteArray.push,strOf]
theorem Zq(pt it ty e:TypeId)(hp:P.underlying pt=some (.pointer e))(hc:P.cellsOf e=1)(g cells:Nat)(hsh:w.shape? g=some (e,cells))(l:List Int)(h0:l≠[])(hn:l.length<=cells)(h63:l.length<=9223372036854775807)
  (hcell:∀j x,l[j]? =some x->w.cell? ((⟨g,0,none⟩:Addr).add j)=some (.int .u8 x)):
  (Builtin.unsafeString_ #[pt,it] ty #[.pointer (some ⟨g,0,none⟩),.int .i64 l.length]).run P w=.ok (.string ⟨(strOf l).toArray⟩) (w.freeze ⟨g,0,none⟩ l.length):=by
 have hl:l.length≠0:=by simpa using h0
 have hlb:=LN (P:=P) w l ⟨g,0,none⟩ .empty hcell;have hlies:=Lib.liesAt_bytes (P:=P) hc (cells/P.cellsOf e) l.length (by rw[hc];simpa using hn)
 have h63':¬(9223372036854775807:Int)<(l.length:Int):=by omega
 have hmax:IntKind.i64.max=9223372036854775807:=rfl;have hneg:¬(l.length:Int)<0:=by omega
 change Sem.run P (bind (asInt (.int .i64 (l.length:Int))) _) w=_;simp[asInt,asIntOf,hmax,h63',hneg,hl,variablesAt,hsh,elemOf,run_underlying hp,hlies,hlb]
theorem aaj(a:Addr)(n:Nat):(w.freeze a n).os=w.os/\(w.freeze a n).tape=w.tape/\(w.freeze a n).output=w.output/\(w.freeze a n).heap.size=w.heap.size/\
  (∀c,c≠a.block->(w.freeze a n).heap[c]? =w.heap[c]?)/\∀cur e fz,w.heap[a.block]? =some (.cells cur e fz)->∃fz',(w.freeze a n).heap[a.block]? =some (.cells cur e fz'):=by
 unfold World.freeze;split
 ·exact⟨rfl,rfl,rfl,rfl,fun _ _=>rfl,fun cur e fz h=>⟨fz,h⟩⟩
 ·refine⟨rfl,rfl,rfl,by simp,fun c hc=>?_,fun cur e fz h=>?_⟩
  ·simp only[Array.getElem?_modify];rw[if_neg (by omega)]
  ·simp only[Array.getElem?_modify,if_true,h,Option.map_some];exact⟨_,rfl⟩
end
abbrev qc(w:World)(v:Value)(xs:List Int)(e:Ending)(w':World):Prop:=e=.returned (.string ⟨(strOf xs).toArray⟩)/\w'.os=w.os/\w'.tape=w.tape/\w'.output=w.output/\w.heap.size<=w'.heap.size/\
   (∀c,c<w.heap.size->bH v≠some c->w'.heap[c]? =w.heap[c]?)/\∀c cur e fz,bH v=some c->w.heap[c]? =some (.cells cur e fz)->∃fz',w'.heap[c]? =some (.cells cur e fz')
set_option maxHeartbeats 2000000 in
theorem aj2(b:Nat)(p:Value)(T:TypeId)(w:World)(hbk:w.heap[b]? =some (.cells #[p,.slice none 0 0] T (0,0))):
  Calls U 65 #[.pointer (some ⟨b,0,none⟩)] w (qc w (.slice none 0 0) []):=by
 have hUS:∀W q,(Builtin.unsafeString_ #[144,3] 9 #[.pointer q,.int .i64 0]).run U W=.ok (.string .empty) W:=fun W q=>Lib.run_unsafeString_none W _ _ _ q
 have c1:w.drew.cell? ⟨b,1,none⟩=some (.slice none 0 0):=by
  have:w.drew.heap[b]? =some (.cells #[p,.slice none 0 0] T (0,0)):=hbk;rw[Lib.cell_of_heap this];rfl
 have mixed:U.follows .mixedOrders=true:=by kernel_rfl
 have hSD:(Builtin.unsafeSliceData_ #[52] 144 #[.slice none 0 0]).run U w.drew=.ok (.pointer none) w.drew:=rfl;go_enter Tryz.func65,Tryz.ntmps65
 go_wp2
 go_region_o
 all_goals(go_wp2;go_ret;exact⟨rfl,rfl,rfl,rfl,Nat.le_refl _,fun _ _ _=>rfl,fun c cur e fz h=>by cases h⟩)
set_option maxHeartbeats 2000000 in
theorem afu(b g:Nat)(p:Value)(T:TypeId)(cur:Array Value)(w:World)(hbk:w.heap[b]? =some (.cells #[p,.slice (some ⟨g,0,none⟩) 0 0] T (0,0)))(fz:Nat×Nat)(hg:w.heap[g]? =some (.cells cur 5 fz)):
  Calls U 65 #[.pointer (some ⟨b,0,none⟩)] w (qc w (.slice (some ⟨g,0,none⟩) 0 0) []):=by
 have hUS:∀W q,(Builtin.unsafeString_ #[144,3] 9 #[.pointer q,.int .i64 0]).run U W=.ok (.string .empty) W:=fun W q=>Lib.run_unsafeString_none W _ _ _ q
 have hlt:b<w.heap.size:=(Array.getElem?_eq_some_iff.1 hbk).1;have c1:w.drew.cell? ⟨b,1,none⟩=some (.slice (some ⟨g,0,none⟩) 0 0):=by
  have:w.drew.heap[b]? =some (.cells #[p,.slice (some ⟨g,0,none⟩) 0 0] T (0,0)):=hbk;rw[Lib.cell_of_heap this];rfl
 have mixed:U.follows .mixedOrders=true:=by kernel_rfl
 have t144:U.underlying 144=some (.pointer 5):=by kernel_rfl
 have hSD:(Builtin.unsafeSliceData_ #[52] 144 #[.slice (some ⟨g,0,none⟩) 0 0]).run U w.drew=.ok (.pointer (some ⟨w.drew.heap.size,0,none⟩)) (w.drew.alloc (.view ⟨g,0,none⟩ 5)):=
  Lib.run_unsafeSliceData_zero w.drew _ _ 5 t144 ⟨g,0,none⟩ 0 (5,cur.size) (by have hg':w.drew.heap[g]? =some (.cells cur 5 fz):=hg;simp[World.shape?,hg'])
 have c2:(w.drew.alloc (.view ⟨g,0,none⟩ 5)).cell? ⟨b,1,none⟩=some (.slice (some ⟨g,0,none⟩) 0 0):=by
  have:(w.drew.alloc (.view ⟨g,0,none⟩ 5)).heap[b]? =_:=(Lib.alloc_old w.drew _ b hlt).trans hbk;rw[Lib.cell_of_heap this];rfl
 have c3:(w.alloc (.view ⟨g,0,none⟩ 5)).drew.cell? ⟨b,1,none⟩=some (.slice (some ⟨g,0,none⟩) 0 0):=c2;have c0:w.cell? ⟨b,1,none⟩=some (.slice (some ⟨g,0,none⟩) 0 0):=c1;have fin:qc w (.slice (some ⟨g,0,none⟩) 0 0) [] (.returned (.string .empty)) (w.drew.alloc (.view ⟨g,0,none⟩ 5)):=by
  refine⟨rfl,rfl,rfl,rfl,by simp,fun c hc _=>Lib.alloc_old w.drew _ c hc,fun c cur' e fz' h h2=>?_⟩
  cases h;exact⟨fz',(Lib.alloc_old w.drew _ g (Array.getElem?_eq_some_iff.1 hg).1).trans h2⟩
 go_enter Tryz.func65,Tryz.ntmps65
 go_wp2
 go_region_o
 all_goals(go_wp2;go_ret;exact fin)
set_option maxHeartbeats 2000000 in
theorem aiJ(b g cap:Nat)(p:Value)(T:TypeId)(w:World)(hc0:cap≠0)(hbk:w.heap[b]? =some (.cells #[p,.slice (some ⟨g,0,none⟩) 0 cap] T (0,0))):
  Calls U 65 #[.pointer (some ⟨b,0,none⟩)] w (qc w (.slice (some ⟨g,0,none⟩) 0 cap) []):=by
 have hUS:∀W q,(Builtin.unsafeString_ #[144,3] 9 #[.pointer q,.int .i64 0]).run U W=.ok (.string .empty) W:=fun W q=>Lib.run_unsafeString_none W _ _ _ q
 have c1:w.drew.cell? ⟨b,1,none⟩=some (.slice (some ⟨g,0,none⟩) 0 cap):=by
  have:w.drew.heap[b]? =some (.cells #[p,.slice (some ⟨g,0,none⟩) 0 cap] T (0,0)):=hbk;rw[Lib.cell_of_heap this];rfl
 have mixed:U.follows .mixedOrders=true:=by kernel_rfl
 have hSD:(Builtin.unsafeSliceData_ #[52] 144 #[.slice (some ⟨g,0,none⟩) 0 cap]).run U w.drew=.ok (.pointer (some ⟨g,0,none⟩)) w.drew:=
  Lib.run_unsafeSliceData_row _ _ _ _ _ _ hc0
 clear hc0;go_enter Tryz.func65,Tryz.ntmps65
 go_wp2
 go_region_o
 all_goals(go_wp2;go_ret;exact⟨rfl,rfl,rfl,rfl,Nat.le_refl _,fun _ _ _=>rfl,fun c cur e fz h h2=>⟨fz,h2⟩⟩)
set_option maxHeartbeats 2000000 in
theorem aj1(b g cap:Nat)(p:Value)(T:TypeId)(cur:Array Value)(fz:Nat×Nat)(xs:List Int)(w:World)(h0:xs≠[])(hbk:w.heap[b]? =some (.cells #[p,.slice (some ⟨g,0,none⟩) xs.length cap] T (0,0)))
  (hg:w.heap[g]? =some (.cells cur 5 fz)) (hnc:xs.length<=cap) (hcm:cap<=maxLen) (hcs:cur.size=cap) (htk:cur.toList.take xs.length=xs.map (Value.int .u8)):
  Calls U 65 #[.pointer (some ⟨b,0,none⟩)] w (qc w (.slice (some ⟨g,0,none⟩) xs.length cap) xs):=by
 have hl0:xs.length≠0:=by simpa using h0
 have c1:w.drew.cell? ⟨b,1,none⟩=some (.slice (some ⟨g,0,none⟩) xs.length cap):=by
  have:w.drew.heap[b]? =some (.cells #[p,.slice (some ⟨g,0,none⟩) xs.length cap] T (0,0)):=hbk;rw[Lib.cell_of_heap this];rfl
 have mixed:U.follows .mixedOrders=true:=by kernel_rfl
 have t144:U.underlying 144=some (.pointer 5):=by kernel_rfl
 have hg':w.drew.heap[g]? =some (.cells cur 5 fz):=hg;have hSD:(Builtin.unsafeSliceData_ #[52] 144 #[.slice (some ⟨g,0,none⟩) xs.length cap]).run U w.drew=.ok (.pointer (some ⟨g,0,none⟩)) w.drew:=
  Lib.run_unsafeSliceData_row _ _ _ _ _ _ (by omega)
 have hUS:(Builtin.unsafeString_ #[144,3] 9 #[.pointer (some ⟨g,0,none⟩),.int .i64 xs.length]).run U w.drew=.ok (.string ⟨(strOf xs).toArray⟩) (w.drew.freeze ⟨g,0,none⟩ xs.length):=by
  refine Zq w.drew 144 3 9 5 t144 (by kernel_rfl) g cur.size (by simp[World.shape?,hg']) xs h0 (by omega) (by unfold maxLen at hcm;omega) ?_
  intro j x hx;rw[gM,Nat.zero_add,cell_of_row w.drew g j cur 5 fz hg'];have hj:j<xs.length:=(List.getElem?_eq_some_iff.1 hx).1;have:=congrArg (fun l=>l[j]?) htk
  simp only[List.getElem?_take,List.getElem?_map,hx,Option.map_some,hj,if_true] at this;simpa using this
 have fin:qc w (.slice (some ⟨g,0,none⟩) xs.length cap) xs (.returned (.string ⟨(strOf xs).toArray⟩)) (w.drew.freeze ⟨g,0,none⟩ xs.length):=by
  obtain⟨f1,f2,f3,f4,f5,f6⟩:=aaj w.drew ⟨g,0,none⟩ xs.length;refine⟨rfl,f1,f2,f3,Nat.le_of_eq f4.symm,fun c _ hc=>f5 c fun e=>hc (by rw[e];rfl),fun c cur' e fz' h h2=>?_⟩
  cases h;exact f6 cur' e fz' h2
 clear htk hg' hg hcs hcm hnc hl0 h0;go_enter Tryz.func65,Tryz.ntmps65
 go_wp2
 go_region_o
 all_goals(go_wp2;go_ret;exact fin)
theorem amm:Bc U 65:=by
 intro b p v T xs w hb hrow;refine .inl ⟨enters_of Tryz.func65 (by kernel_rfl) rfl _ _,?_⟩
 have key:Calls U 65 #[.pointer (some ⟨b,0,none⟩)] w (qc w v xs):=by
  rcases hrow.2 with⟨rfl,h0⟩|⟨g,cap,cur,fz,rfl,hu,hg,hnc,hcm,hcs,htk⟩
  ·have:xs=[]:=List.eq_nil_of_length_eq_zero h0;subst this;exact aj2 b p T w hb
  ·by_cases h0:xs=[]
   ·subst h0;by_cases hc:cap=0
    ·subst hc;exact afu b g p T cur w hb fz hg
    ·exact aiJ b g cap p T w hc hb
   ·exact aj1 b g cap p T cur fz xs w h0 hb hg hnc hcm (by simpa using hcs) (by simpa using htk)
 refine key.mono fun e w' h=>?_
 obtain⟨rfl,h⟩:=h;exact⟨rfl,h⟩
theorem aqH:BI 0 .u32 il:=ae9 (by simp[kF]) fun w h=>h.1
theorem atm:Sc U aj:=⟨afN (Pc (by kernel_rfl)),by kernel_rfl,fun p h=>by
 simp only[aj,List.mem_cons,List.not_mem_nil,or_false] at h;subst h;exact ak7,fun g h=>by
 simp only[aj,List.mem_cons,List.not_mem_nil,or_false] at h;subst h;exact alC,fun g h=>by
 simp only[aj,List.mem_cons,List.not_mem_nil,or_false] at h;subst h;exact aj0,fun g h=>by
 simp only[aj,List.mem_cons,List.not_mem_nil,or_false] at h;subst h;exact amm,fun p h=>by
 simp only[aj,List.mem_cons,List.not_mem_nil,or_false] at h;subst h;exact aqH⟩
theorem bf{L:bi}(h:BP U L):a_ U (bg aj L):=ahc atm h
theorem g0:a_ U (bg aj []):=bf ⟨⟩
abbrev PM:Shape:=⟨[ao 0,ae 1],[],53⟩
abbrev Pu:List aO:=[(.norm,⟨[ao 0,ae 1,au 24],[],53⟩)]
noncomputable def zH(y:PM.J):Option (aD Pu):=
 bif(!(y.1.1==([]:F))) then
 bif(!(decide ((y.1.1.length:Int)>(9:Int)))) then
 bif(decide ((y.1.1.length:Int)>(1:Int))) then
(aU y.1.1 (0:Int)).bind fun a=>
 some ((y.1.1,y.1.2.1,((a.toNat:Int)==(48:Int)),()),())
else
 some ((y.1.1,y.1.2.1,false,()),())
else
 some ((y.1.1,y.1.2.1,true,()),())
else
 some ((y.1.1,y.1.2.1,true,()),())
theorem agJ:aY U (an (codeOf Tryz.f115) 1 12) (a' PM Pu zH):=cW g0 (by kernel_rfl) ag fun y=>by kernel_rfl
abbrev MN:Shape:=⟨[ao 0,ae 1,ae 6,ae 7,ae 26,ae 27],[],53⟩
abbrev MG:List aO:=[(.norm,⟨[ao 0,ae 1,ae 6,ae 7,ae 26,ae 27,au 39],[],53⟩)]
noncomputable def xq(y:MN.J):Option (aD MG):=
(aU y.1.1 y.1.2.2.2.1).bind fun a=>
 bif(!(decide ((a.toNat:Int)<(48:Int)))) then
(aU y.1.1 y.1.2.2.2.1).bind fun b=>
 some ((y.1.1,y.1.2.1,y.1.2.2.1,y.1.2.2.2.1,y.1.2.2.2.2.1,y.1.2.2.2.2.2.1,(decide ((b.toNat:Int)>(57:Int))),()),())
else
 some ((y.1.1,y.1.2.1,y.1.2.2.1,y.1.2.2.2.1,y.1.2.2.2.2.1,y.1.2.2.2.2.2.1,true,()),())
theorem aa2:aY U (an (da (an (codeOf Tryz.f115) 1 122)) 244 31332) (a' MN MG xq):=cW g0 (by kernel_rfl) ag fun y=>by kernel_rfl
abbrev yf:Shape:=⟨[ao 0,ae 1,ae 6,ae 26,ae 27],[],53⟩
abbrev Ev:List aO:=[(.ret,⟨[ae 4,au 5],[],53⟩),(.exit 0,⟨[ae 1,ae 6],[],53⟩)]
noncomputable def pT(y:yf.J):bR yf Ev:=
 bif(decide (y.1.2.2.2.2.1<y.1.2.2.2.1)) then
(xq ((y.1.1,y.1.2.1,y.1.2.2.1,y.1.2.2.2.2.1,y.1.2.2.2.1,y.1.2.2.2.2.1,()),())).bind fun a=>
 bif a.1.2.2.2.2.2.2.1 then
 some (.inr (.inl (((0:Int),false,()),())))
else
(aU a.1.1 a.1.2.2.2.1).bind fun b=>
 some (.inl ((a.1.1,a.1.2.1,(IntKind.i64.wrap ((IntKind.i64.wrap (a.1.2.2.1*(10:Int)))+(IntKind.i64.wrap (IntKind.u8.wrap ((b.toNat:Int)-(48:Int)))))),a.1.2.2.2.2.1,(IntKind.i64.wrap (a.1.2.2.2.2.2.1+(1:Int))),()),()))
else
 some (.inr (.inr ((y.1.2.1,y.1.2.2.1,()),())))
noncomputable def rQ:yf.J->Option (aD Ev):=bv pT
theorem aeL:aY U (an (codeOf Tryz.f115) 1 122) (a' yf Ev rQ):=bT g0 (by kernel_rfl) (ba aa2 ag) fun y=>by kernel_rfl
abbrev i115:Shape:=⟨[ao 0,ae 1],[],53⟩
abbrev TY:Shape:=⟨[ae 4,au 5],[],53⟩
noncomputable def f115(a:i115.J):Option TY.J:=
(zH ((a.1.1,a.1.2.1,()),())).bind fun b=>
 bif b.1.2.2.1 then
 some (((0:Int),false,()),())
else
(rQ ((b.1.1,b.1.2.1,(0:Int),(b.1.1.length:Int),(0:Int),()),())).bind fun c=>
(match c with
|.inl d=>
 some ((d.1.1,d.1.2.1,()),())
|.inr e=>
 bif(decide (e.1.2.1>e.1.1)) then
 some (((0:Int),false,()),())
else
 some ((e.1.2.1,true,()),()))
noncomputable def BE:aH:=aP aj Tryz.f115 i115 TY [] f115
theorem H6:aG U 115 BE:=aS g0 Tryz.func115 (by kernel_rfl) (ba agJ (ba aeL ag)) (fun y=>by kernel_rfl) fun a=>by kernel_rfl
abbrev OC:Shape:=⟨[ao 0,ae 3,ae 4],[],47⟩
abbrev Ol:List aO:=[(.norm,⟨[ao 0,ae 3,ae 4,au 24],[],47⟩)]
noncomputable def E2(y:OC.J):Option (aD Ol):=
(aU y.1.1 y.1.2.2.1).bind fun a=>
 bif(!(decide ((a.toNat:Int)<(48:Int)))) then
(aU y.1.1 y.1.2.2.1).bind fun b=>
 bif(!(decide ((b.toNat:Int)>(57:Int)))) then
 some ((y.1.1,y.1.2.1,y.1.2.2.1,(decide (y.1.2.2.1>=(6:Int))),()),())
else
 some ((y.1.1,y.1.2.1,y.1.2.2.1,true,()),())
else
 some ((y.1.1,y.1.2.1,y.1.2.2.1,true,()),())
theorem aen:aY U (an (da (an (codeOf Tryz.f74) 1 58)) 116 3728) (a' OC Ol E2):=cW g0 (by kernel_rfl) ag fun y=>by kernel_rfl
abbrev Ab:Shape:=⟨[ao 0,ae 3,ae 4],[],47⟩
abbrev G3:List aO:=[(.ret,⟨[ae 2],[],47⟩),(.exit 0,⟨[ao 0,ae 3],[],47⟩)]
noncomputable def Az(y:Ab.J):bR Ab G3:=
 bif(decide (y.1.2.2.1<(y.1.1.length:Int))) then
(E2 ((y.1.1,y.1.2.1,y.1.2.2.1,()),())).bind fun a=>
 bif a.1.2.2.2.1 then
 some (.inr (.inl ((((-1):Int),()),())))
else
(aU a.1.1 a.1.2.2.1).bind fun b=>
 some (.inl ((a.1.1,(IntKind.i64.wrap ((IntKind.i64.wrap (a.1.2.1*(10:Int)))+(IntKind.i64.wrap (IntKind.u8.wrap ((b.toNat:Int)-(48:Int)))))),(IntKind.i64.wrap (a.1.2.2.1+(1:Int))),()),()))
else
 some (.inr (.inr ((y.1.1,y.1.2.1,()),())))
noncomputable def Hn:Ab.J->Option (aD G3):=bv Az
theorem ah5:aY U (an (codeOf Tryz.f74) 1 58) (a' Ab G3 Hn):=bT g0 (by kernel_rfl) (ba aen ag) fun y=>by kernel_rfl
abbrev QC:Shape:=⟨[ao 0,ae 3],[],47⟩
abbrev Qt:List aO:=[(.norm,⟨[ae 3,au 45],[],47⟩)]
noncomputable def HB(y:QC.J):Option (aD Qt):=
 bif(!((y.1.1.length:Int)==(0:Int))) then
 bif(decide ((y.1.1.length:Int)>(1:Int))) then
(aU y.1.1 (0:Int)).bind fun a=>
 some ((y.1.2.1,((a.toNat:Int)==(48:Int)),()),())
else
 some ((y.1.2.1,false,()),())
else
 some ((y.1.2.1,true,()),())
theorem ah4:aY U (an (codeOf Tryz.f74) 1 60) (a' QC Qt HB):=cW g0 (by kernel_rfl) ag fun y=>by kernel_rfl
abbrev i74:Shape:=⟨[ao 0],[],47⟩
abbrev WN:Shape:=⟨[ae 2],[],47⟩
noncomputable def f74(a:i74.J):Option WN.J:=
(Hn ((a.1.1,(0:Int),(0:Int),()),())).bind fun b=>
(match b with
|.inl c=>
 some ((c.1.1,()),())
|.inr d=>
(HB ((d.1.1,d.1.2.1,()),())).bind fun e=>
 bif e.1.2.1 then
 some ((((-1):Int),()),())
else
 some ((e.1.1,()),()))
noncomputable def Ct:aH:=aP aj Tryz.f74 i74 WN [] f74
theorem Jo:aG U 74 Ct:=aS g0 Tryz.func74 (by kernel_rfl) (ba ah5 (ba ah4 ag)) (fun y=>by kernel_rfl) fun a=>by kernel_rfl
abbrev i75:Shape:=⟨[ae 0,ae 1,ae 2],[],15⟩
abbrev WM:Shape:=⟨[au 6],[],15⟩
noncomputable def f75(a:i75.J):Option WM.J:=
 bif(decide (a.1.1>=a.1.2.1)) then
 some (((decide (a.1.1<=a.1.2.2.1)),()),())
else
 some ((false,()),())
noncomputable def oc:aH:=aP aj Tryz.f75 i75 WM [] f75
theorem z75:aG U 75 oc:=aS g0 Tryz.func75 (by kernel_rfl) ag (fun y=>by kernel_rfl) fun a=>by kernel_rfl
noncomputable abbrev art:bi:=[(75,oc)]
theorem Cz:a_ U (bg aj art):=bf ⟨z75,⟨⟩⟩
abbrev Pz:Shape:=⟨[ao 0,ae 3],[],42⟩
abbrev Pg:List aO:=[(.norm,⟨[ao 0,ae 3,au 4],[],42⟩)]
noncomputable def Gz(y:Pz.J):Option (aD Pg):=
(aU y.1.1 y.1.2.1).bind fun a=>
 bif(decide ((a.toNat:Int)>=(97:Int))) then
(aU y.1.1 y.1.2.1).bind fun b=>
 some ((y.1.1,y.1.2.1,(decide ((b.toNat:Int)<=(122:Int))),()),())
else
 some ((y.1.1,y.1.2.1,false,()),())
theorem afV:aY U (an (da (an (codeOf Tryz.f87) 1 26)) 52 840) (a' Pz Pg Gz):=cW Cz (by kernel_rfl) ag fun y=>by kernel_rfl
abbrev OB:Shape:=⟨[ao 0,ae 3,au 4],[],42⟩
abbrev Ok:List aO:=[(.norm,⟨[ao 0,ae 3,au 38],[],42⟩)]
noncomputable def E1(y:OB.J):Option (aD Ok):=
 bif(!y.1.2.2.1) then
 bif(!(y.1.2.1==(0:Int))) then
(aU y.1.1 y.1.2.1).bind fun a=>
 bif(!(decide ((a.toNat:Int)<(48:Int)))) then
(aU y.1.1 y.1.2.1).bind fun b=>
 some ((y.1.1,y.1.2.1,(decide ((b.toNat:Int)>(57:Int))),()),())
else
 some ((y.1.1,y.1.2.1,true,()),())
else
 some ((y.1.1,y.1.2.1,true,()),())
else
 some ((y.1.1,y.1.2.1,false,()),())
theorem aem:aY U (an (da (an (codeOf Tryz.f87) 1 26)) 52 1682) (a' OB Ok E1):=cW Cz (by kernel_rfl) ag fun y=>by kernel_rfl
abbrev Aa:Shape:=⟨[ao 0,ae 3],[],42⟩
abbrev G2:List aO:=[(.ret,⟨[au 2],[],42⟩),(.exit 0,⟨[ao 0],[],42⟩)]
noncomputable def Ay(y:Aa.J):bR Aa G2:=
 bif(decide (y.1.2.1<(y.1.1.length:Int))) then
(Gz ((y.1.1,y.1.2.1,()),())).bind fun a=>
(E1 ((a.1.1,a.1.2.1,a.1.2.2.1,()),())).bind fun b=>
 bif b.1.2.2.1 then
 some (.inr (.inl ((false,()),())))
else
 some (.inl ((b.1.1,(IntKind.i64.wrap (b.1.2.1+(1:Int))),()),()))
else
 some (.inr (.inr ((y.1.1,()),())))
noncomputable def Hm:Aa.J->Option (aD G2):=bv Ay
theorem ah2:aY U (an (codeOf Tryz.f87) 1 26) (a' Aa G2 Hm):=bT Cz (by kernel_rfl) (ba afV (ba aem ag)) fun y=>by kernel_rfl
abbrev i87:Shape:=⟨[ao 0],[],42⟩
abbrev WH:Shape:=⟨[au 2],[],42⟩
noncomputable def f87(a:i87.J):Option WH.J:=
(Hm ((a.1.1,(0:Int),()),())).bind fun b=>
(match b with
|.inl c=>
 some ((c.1.1,()),())
|.inr d=>
(f75 (((d.1.1.length:Int),(1:Int),(10:Int),()),())).bind fun e=>
 some ((e.1.1,()),()))
noncomputable def KJ:aH:=aP aj Tryz.f87 i87 WH [] f87
theorem z87:aG U 87 KJ:=aS Cz Tryz.func87 (by kernel_rfl) (ba ah2 ag) (fun y=>by kernel_rfl) fun a=>by kernel_rfl
abbrev QA:Shape:=⟨[ao 0],[],49⟩
abbrev Qr:List aO:=[(.norm,⟨[ao 0,au 20],[],49⟩)]
noncomputable def Hz(y:QA.J):Option (aD Qr):=
 bif(!(y.1.1==([]:F))) then
 bif(!(decide ((y.1.1.length:Int)>(10:Int)))) then
(aU y.1.1 (0:Int)).bind fun a=>
 bif(!(decide ((a.toNat:Int)<(97:Int)))) then
(aU y.1.1 (0:Int)).bind fun b=>
 some ((y.1.1,(decide ((b.toNat:Int)>(122:Int))),()),())
else
 some ((y.1.1,true,()),())
else
 some ((y.1.1,true,()),())
else
 some ((y.1.1,true,()),())
theorem ahW:aY U (an (codeOf Tryz.f99) 1 12) (a' QA Qr Hz):=cW g0 (by kernel_rfl) ag fun y=>by kernel_rfl
abbrev OA:Shape:=⟨[ao 0,ae 3,ae 22,ae 23],[],49⟩
abbrev Oj:List aO:=[(.norm,⟨[ao 0,ae 22,ae 23,au 47],[],49⟩)]
noncomputable def E0(y:OA.J):Option (aD Oj):=
(aU y.1.1 y.1.2.1).bind fun a=>
 bif(!(decide ((a.toNat:Int)<(97:Int)))) then
(aU y.1.1 y.1.2.1).bind fun b=>
 bif(decide ((b.toNat:Int)>(122:Int))) then
(aU y.1.1 y.1.2.1).bind fun c=>
 bif(!(decide ((c.toNat:Int)<(48:Int)))) then
(aU y.1.1 y.1.2.1).bind fun d=>
 some ((y.1.1,y.1.2.2.1,y.1.2.2.2.1,(decide ((d.toNat:Int)>(57:Int))),()),())
else
 some ((y.1.1,y.1.2.2.1,y.1.2.2.2.1,true,()),())
else
 some ((y.1.1,y.1.2.2.1,y.1.2.2.2.1,false,()),())
else
(aU y.1.1 y.1.2.1).bind fun e=>
 bif(!(decide ((e.toNat:Int)<(48:Int)))) then
(aU y.1.1 y.1.2.1).bind fun f=>
 some ((y.1.1,y.1.2.2.1,y.1.2.2.2.1,(decide ((f.toNat:Int)>(57:Int))),()),())
else
 some ((y.1.1,y.1.2.2.1,y.1.2.2.2.1,true,()),())
theorem ael:aY U (an (da (an (codeOf Tryz.f99) 1 58)) 116 7474) (a' OA Oj E0):=cW g0 (by kernel_rfl) ag fun y=>by kernel_rfl
abbrev z1:Shape:=⟨[ao 0,ae 22,ae 23],[],49⟩
abbrev GX:List aO:=[(.ret,⟨[au 2],[],49⟩),(.exit 0,⟨[],[],49⟩)]
noncomputable def As(y:z1.J):bR z1 GX:=
 bif(decide (y.1.2.2.1<y.1.2.1)) then
(E0 ((y.1.1,y.1.2.2.1,y.1.2.1,y.1.2.2.1,()),())).bind fun a=>
 bif a.1.2.2.2.1 then
 some (.inr (.inl ((false,()),())))
else
 some (.inl ((a.1.1,a.1.2.1,(IntKind.i64.wrap (a.1.2.2.1+(1:Int))),()),()))
else
 some (.inr (.inr ((),())))
noncomputable def Hg:z1.J->Option (aD GX):=bv As
theorem ahV:aY U (an (codeOf Tryz.f99) 1 58) (a' z1 GX Hg):=bT g0 (by kernel_rfl) (ba ael ag) fun y=>by kernel_rfl
abbrev i99:Shape:=⟨[ao 0],[],49⟩
abbrev WB:Shape:=⟨[au 2],[],49⟩
noncomputable def f99(a:i99.J):Option WB.J:=
(Hz ((a.1.1,()),())).bind fun b=>
 bif b.1.2.1 then
 some ((false,()),())
else
(Hg ((b.1.1,(b.1.1.length:Int),(0:Int),()),())).bind fun c=>
(match c with
|.inl d=>
 some ((d.1.1,()),())
|.inr e=>
 some ((true,()),()))
noncomputable def KH:aH:=aP aj Tryz.f99 i99 WB [] f99
theorem Wn:aG U 99 KH:=aS g0 Tryz.func99 (by kernel_rfl) (ba ahW (ba ahV ag)) (fun y=>by kernel_rfl) fun a=>by kernel_rfl
def iF(b:UInt8):Bool:=decide ((97:Int)<=(b.toNat:Int))&&decide ((b.toNat:Int)<=122)
def cI(b:UInt8):Bool:=decide ((48:Int)<=(b.toNat:Int))&&decide ((b.toNat:Int)<=57)
def within(n cQ hi:Int):Bool:=decide (cQ<=n)&&decide (n<=hi)
theorem nB(a):f75 a=some ((within a.1.1 a.1.2.1 a.1.2.2.1,()),()):=by
 simp only[f75,within,ge_iff_le];cases decide (a.1.2.1<=a.1.1)<;>rfl
def iy(s:F):Bool:=allI (fun i x=>iF x||(!(i==0)&&cI x)) 0 s&&within s.length 1 10
theorem Ob(a)(hs:ap a.1.1.length):f87 a=some ((iy a.1.1,()),()):=by
 obtain⟨⟨s,u⟩,b5⟩:=a;have key:Hm ((s,((0:Int),())),())=some (bif allI (fun i x=>iF x||(!(i==0)&&cI x)) 0 s then .inr ((s,()),()) else .inl ((false,()),())):=by
  refine fZ Ay s (fun i=>((s,((i:Int),())),())) _ _ _ (fun i x hx=>?_) ?_
  ·have hi:=cS hx;have hw:ap i:=by unfold ap at*;simp only at hs;omega
   simp only[Ay,b8 hi,cond_true,Gz,E1,bX,hx,Option.bind_some,bS hw,ge_iff_le,UA];unfold iF cI;by_cases h1:(97:Int)<=(x.toNat:Int)<;>by_cases h2:(x.toNat:Int)<=122<;>cases h3:(i==0)<;>by_cases aw:(48:Int)<=(x.toNat:Int)<;>by_cases bk:(x.toNat:Int)<=57<;>simp[h1,h2,h3,aw,bk,bS hw,bX,hx,UA,n_,mX,-beq_iff_eq]
  ·simp only[Ay,dh,cond_false]
 simp only[f87,key,Option.bind_some];unfold iy;cases allI (fun i x=>iF x||(!(i==0)&&cI x)) 0 s with
 |false=>rfl
 |true=>simp only[cond_true,nB,Option.bind_some,Bool.true_and]
theorem Mo(b:UInt8)(r:F):iy (b::r)=(iF b&&(b::r).all (fun x=>iF x||cI x)&&decide (((b::r).length:Int)<=10)):=by
 unfold iy;simp only[allI,List.all_cons];have:allI (fun i x=>iF x||(!(i==0)&&cI x)) (0+1) r=r.all (fun x=>iF x||cI x):=by
  have hz:∀(i:Nat) (x:UInt8),1<=i->x∈r->(iF x||(!(i==0)&&cI x))=(iF x||cI x):=by
   intro i x hi _;have:(i==0)=false:=by simp;omega
   rw[this];simp
  rw[M3 (l4:=fun _ x=>iF x||cI x) r 1 hz,gH]
 rw[this];unfold within;have:decide ((1:Int)<=((b::r).length:Int))=true:=by simp only[List.length_cons,decide_eq_true_eq];omega
 rw[this];cases iF b<;>simp
theorem LU(a)(hs:ap a.1.1.length):f99 a=some ((iy a.1.1,()),()):=by
 obtain⟨⟨s,u⟩,b5⟩:=a;have key:Hg ((s,((s.length:Int),((0:Int),()))),())=some (bif allI (fun _ x=>iF x||cI x) 0 s then .inr ((),()) else .inl ((false,()),())):=by
  refine fZ As s (fun i=>((s,((s.length:Int),((i:Int),()))),())) _ _ _ (fun i x hx=>?_) ?_
  ·have hi:=cS hx;have hw:ap i:=by unfold ap at*;simp only at hs;omega
   simp only[As,b8 hi,cond_true,E0,bX,hx,Option.bind_some,bS hw,n_,mX];unfold iF cI;by_cases h1:(97:Int)<=(x.toNat:Int)<;>by_cases h2:(x.toNat:Int)<=122<;>by_cases aw:(48:Int)<=(x.toNat:Int)<;>by_cases bk:(x.toNat:Int)<=57<;>simp[h1,h2,aw,bk,bS hw,bX,hx,n_,mX]
  ·simp only[As,dh,cond_false]
 rw[gH] at key;cases s with
 |nil=>rfl
 |cons b r=>
  have hb:aU (b::r) 0=some b:=rfl;simp only[f99,Hz,hb,Option.bind_some,n_,mX,Mo];have he:((b::r)==([]:F))=false:=rfl;have hl:iF b=(decide ((97:Int)<=(b.toNat:Int))&&decide ((b.toNat:Int)<=122)):=rfl;rw[he,hl];by_cases h1:(97:Int)<=(b.toNat:Int)<;>by_cases h2:(b.toNat:Int)<=122<;>by_cases h3:((b::r).length:Int)<=10<;>
   simp only[h1,h2,h3,decide_true,decide_false,Bool.not_true,Bool.not_false,cond_true,cond_false,Option.bind_some,Bool.true_and,Bool.and_true,Bool.false_and,Bool.and_false]
  rw[key];generalize List.all (b::r) (fun x=>iF x||cI x)=q
  cases q<;>rfl
def dU(n:Int)(b:UInt8):Int:=n*10+((b.toNat:Int)-48)
def c9(s:F):Int:=s.foldl dU 0
def hY:F->Bool
 |b::_::_=>(b.toNat:Int)==48
 |_=>false
def fk(s:F):Bool:=s.all cI&&!(s==[])&&!hY s&&decide (s.length<=6)&&decide (c9 s<=999)
theorem ix{b:UInt8}(h:cI b=true):48<=(b.toNat:Int)/\(b.toNat:Int)<=57:=by
 simpa[cI] using h
theorem ahD{b:UInt8}(h:cI b=true):IntKind.u8.wrap ((b.toNat:Int)-48)=(b.toNat:Int)-48:=by
 have:=ix h;rw[IntKind.wrap_u8];omega
theorem C5{n:Int}{b:UInt8}{i:Nat}(h:cI b=true)(h0:0<=n)(h1:n<10^i):0<=dU n b/\dU n b<10^(i+1):=by
 have:=ix h;unfold dU;rw[Int.pow_succ];omega
theorem agN{i:Nat}(h:i<=9):(10:Int)^i<=1000000000:=by
 have:i=0\/i=1\/i=2\/i=3\/i=4\/i=5\/i=6\/i=7\/i=8\/i=9:=by omega
 rcases this with rfl|rfl|rfl|rfl|rfl|rfl|rfl|rfl|rfl|rfl<;>decide
theorem DD{n:Int}{b:UInt8}{i:Nat}(h:cI b=true)(hi:i<=8)(h0:0<=n)(h1:n<10^i):
  IntKind.i64.wrap (IntKind.i64.wrap (n*10)+IntKind.i64.wrap (IntKind.u8.wrap ((b.toNat:Int)-48)))=dU n b:=by
 have Z:=ix h;have hp:=agN (show i<=9 by omega)
 rw[ahD h,eg (n:=n*10) (by omega) (by omega),eg (n:=(b.toNat:Int)-48) (by omega) (by omega),eg (by omega) (by omega)]
 rfl
theorem Fi(a)(hs:ap a.1.1.length):f74 a=some ((bif a.1.1.all cI&&decide (a.1.1.length<=6)&&!(a.1.1==[])&&!hY a.1.1 then c9 a.1.1 else-1,()),()):=by
 obtain⟨⟨s,u⟩,b5⟩:=a;have key:Hn ((s,((0:Int),((0:Int),()))),())=some (bif allI (fun i x=>cI x&&decide (i<6)) 0 s then .inr ((s,(c9 s,())),()) else .inl ((((-1):Int),()),())):=by
  have:=lF Az s (fun i n=>((s,(n,((i:Int),()))),())) (fun i x n=>some (bif cI x&&decide (i<6) then .inl (dU n x) else .inr (.inl ((((-1):Int),()),())))) (fun n=>.inr ((s,(n,())),()))
   (fun i n=>0<=n/\n<10^i/\(i<=6)) (0:Int) ⟨by decide,by decide,by decide⟩ (fun i x n hx dq=>?_) (fun n _=>?_)
  ·exact this.trans (by rw[xe];rfl)
  ·have hi:=cS hx;have hw:ap i:=by unfold ap at*;simp only at hs;omega
   obtain⟨h0,h1,cp⟩:=dq;refine⟨?_,fun aC af=>?_⟩
   ·simp only[Az,b8 hi,cond_true,E2,bX,hx,Option.bind_some,bS hw,n_,mX,Kv];have alM:decide ((6:Int)<=(i:Int))=!decide (i<6):=by by_cases h:i<6<;>simp[h]<;>omega
    rw[alM];cases Z:cI x with
    |false=>
     unfold cI at Z;by_cases aw:(48:Int)<=(x.toNat:Int)<;>by_cases bk:(x.toNat:Int)<=57<;>simp[aw,bk] at Z ⊢
    |true=>
     obtain⟨aw,bk⟩:=ix Z;cases ar:decide (i<6) with
     |false=>simp[aw,bk]
     |true=>
      have ar:i<6:=by simpa using ar
      have:=DD (i:=i) Z (by omega) h0 h1
      simp only[aw,bk,decide_true,Bool.not_true,Bool.not_false,cond_true,cond_false,Option.bind_some,bX,hx,this,bS hw,Bool.and_true,Option.map_some]
   ·simp only[Option.some.injEq] at af;cases ar:(cI x&&decide (i<6)) with
    |false=>rw[ar] at af;cases af
    |true=>
     rw[ar] at af;simp only[cond_true,Sum.inl.injEq] at af;simp only[Bool.and_eq_true,decide_eq_true_eq] at ar;subst af;have:=C5 ar.1 h0 h1;exact⟨this.1,this.2,by omega⟩
  ·simp only[Az,dh,cond_false]
 rw[Fb,gH,ahq] at key;simp only[f74,key,Option.bind_some];cases s with
 |nil=>rfl
 |cons b r=>
  have hb:aU (b::r) 0=some b:=rfl;have he:((b::r)==([]:F))=false:=rfl;have hz:(((b::r).length:Int)==0)=false:=by simp only[List.length_cons,beq_eq_false_iff_ne,ne_eq];omega
  have hl:decide (((b::r).length:Int)>1)=!(r==[]):=by cases r<;>simp;omega
  simp only[List.isEmpty_cons,Bool.false_or,Nat.zero_add,he,Bool.not_false,Bool.and_true];cases ar:(List.all (b::r) cI&&decide ((b::r).length<=6)) with
  |false=>rfl
  |true=>
   simp only[cond_true,HB,hz,Bool.not_false,hl,hb,Option.bind_some,Bool.true_and];cases r with
   |nil=>rfl
   |cons c r=>
    have:((c::r)==([]:F))=false:=rfl;rw[this];simp only[Bool.not_false,cond_true,Option.bind_some,hY];cases ((b.toNat:Int)==48)<;>rfl
theorem abF:∀(r:F) (n:Int) (k:Nat),r.all cI=true->0<=n->10^k<=n->10^(k+r.length)<=r.foldl dU n:=by
 intro r;induction r with
 |nil=>intro n k _ _ h;exact h
 |cons b r ih=>
  intro n k Z h0 h;simp only[List.all_cons,Bool.and_eq_true] at Z;have hb:=ix Z.1;have hs:10^(k+1)<=dU n b:=by unfold dU;rw[Int.pow_succ];omega
  have:=ih (dU n b) (k+1) Z.2 (by unfold dU;omega) hs
  simp only[List.length_cons,List.foldl_cons];rw[show k+(r.length+1)=k+1+r.length by omega]
  exact this
theorem aeP{n:Nat}(h:6<=n):(1000000:Int)<=10^n:=by
 induction n with
 |zero=>omega
 |succ n ih=>
  by_cases cp:6<=n
  ·have:=ih cp;rw[Int.pow_succ];omega
  ·have:n=5:=by omega
   subst this;decide
theorem afH{s:F}(Z:s.all cI=true)(hl:hY s=false)(iw:7<=s.length):999<c9 s:=by
 match s,iw with
 |b::c::r,iw=>
  simp only[hY,beq_eq_false_iff_ne,ne_eq] at hl;simp only[List.all_cons,Bool.and_eq_true] at Z;have hb:=ix Z.1;have hc:=ix Z.2.1;have hs:(10:Int)^0<=dU 0 b:=by unfold dU;simp;omega
  have:=abF (c::r) (dU 0 b) 0 (by simp[Z.2.1,Z.2.2]) (by unfold dU;omega) hs
  have h2:(1000000:Int)<=10^(0+(c::r).length):=aeP (by simp only[List.length_cons] at iw ⊢;omega)
  show 999<List.foldl dU (dU 0 b) (c::r);omega
theorem adI(a)(hs:ap a.1.1.length)(hQ:a.1.2.1=999):f115 a=some ((bif fk a.1.1 then c9 a.1.1 else 0,(fk a.1.1,())),()):=by
 obtain⟨⟨s,m,u⟩,b5⟩:=a;obtain rfl:m=999:=hQ;have key:s.length<=9->rQ ((s,((999:Int),((0:Int),((s.length:Int),((0:Int),()))))),())=some (bif allI (fun i x=>cI x) 0 s then .inr (((999:Int),(c9 s,())),()) else .inl (((0:Int),(false,())),())):=by
  intro hQ;have:=lF pT s (fun i n=>((s,((999:Int),(n,((s.length:Int),((i:Int),()))))),())) (fun i x n=>some (bif cI x then .inl (dU n x) else .inr (.inl (((0:Int),(false,())),())))) (fun n=>.inr (((999:Int),(n,())),()))
   (fun i n=>0<=n/\n<10^i/\(i<=9)) (0:Int) ⟨by decide,by decide,by decide⟩ (fun i x n hx dq=>?_) (fun n _=>?_)
  ·exact this.trans (by rw[xe];rfl)
  ·have hi:=cS hx;have hw:ap i:=by unfold ap at*;simp only at hs;omega
   obtain⟨h0,h1,cp⟩:=dq;refine⟨?_,fun aC af=>?_⟩
   ·simp only[pT,b8 hi,cond_true,xq,bX,hx,Option.bind_some,bS hw,n_,mX,Kv];cases Z:cI x with
    |false=>
     unfold cI at Z;by_cases aw:(48:Int)<=(x.toNat:Int)<;>by_cases bk:(x.toNat:Int)<=57<;>simp[aw,bk] at Z ⊢
    |true=>
     obtain⟨aw,bk⟩:=ix Z;have:=DD (i:=i) Z (by omega) h0 h1
     simp only[aw,bk,decide_true,Bool.not_true,Bool.not_false,cond_true,cond_false,Option.bind_some,bX,hx,this,bS hw,Bool.and_true,Option.map_some]
   ·simp only[Option.some.injEq] at af;cases ar:cI x with
    |false=>rw[ar] at af;cases af
    |true=>
     rw[ar] at af;simp only[cond_true,Sum.inl.injEq] at af;subst af;have:=C5 ar h0 h1;exact⟨this.1,this.2,by omega⟩
  ·simp only[pT,dh,cond_false]
 rw[gH] at key;cases s with
 |nil=>rfl
 |cons b r=>
  have hb:aU (b::r) 0=some b:=rfl;have he:((b::r)==([]:F))=false:=rfl;have hl:decide (((b::r).length:Int)>1)=!(r==[]):=by cases r<;>simp;omega
  have hQ:decide (((b::r).length:Int)>9)=!decide ((b::r).length<=9):=by by_cases h:(b::r).length<=9<;>simp only[h,decide_true,decide_false,Bool.not_true,Bool.not_false,decide_eq_true_eq,decide_eq_false_iff_not]<;>omega
  have qj:hY (b::r)=(!(r==[])&&(b.toNat:Int)==48):=by cases r<;>rfl
  simp only[f115,zH,he,hl,hQ,Bool.not_false,cond_true,Bool.not_not,hb,Option.bind_some];have fin:(b::r).length<=9->hY (b::r)=false->((rQ ((b::r,((999:Int),((0:Int),(((b::r).length:Int),((0:Int),()))))),())).bind fun Ib=>match Ib with
    |.inl vq=>some ((vq.1.1,(vq.1.2.1,())),())
    |.inr qp=>bif decide (qp.1.2.1>qp.1.1) then some (((0:Int),(false,())),()) else some ((qp.1.2.1,(true,())),()))=
    some ((bif fk (b::r) then c9 (b::r) else 0,(fk (b::r),())),()):=by
   intro hQ jG;rw[key hQ];unfold fk;rw[he,jG];cases Z:List.all (b::r) cI with
   |false=>rfl
   |true=>
    simp only[cond_true,Option.bind_some,Bool.not_false,Bool.true_and,mX];by_cases cp:(b::r).length<=6
    ·simp only[cp,decide_true,Bool.true_and];cases decide (c9 (b::r)<=999)<;>rfl
    ·have:=afH Z jG (by omega)
     have:decide (c9 (b::r)<=999)=false:=by simp only[decide_eq_false_iff_not];omega
     rw[this];simp only[cp,decide_false,Bool.false_and];rfl
  by_cases ar:(b::r).length<=9
  ·simp only[ar,decide_true,cond_true];cases hr:(r==[]) with
   |true=>
    simp only[Bool.not_true,cond_false,Option.bind_some];exact fin ar (by rw[qj,hr];rfl)
   |false=>
    simp only[Bool.not_false,cond_true,Option.bind_some];cases pk:((b.toNat:Int)==48) with
    |true=>
     have:fk (b::r)=false:=by unfold fk;rw[qj,hr,pk];simp
     rw[this];rfl
    |false=>
     simp only[cond_false];exact fin ar (by rw[qj,hr,pk];rfl)
  ·have:fk (b::r)=false:=by
    unfold fk;have:decide ((b::r).length<=6)=false:=by simp only[decide_eq_false_iff_not];omega
    rw[this];simp
   simp only[ar,decide_false,cond_false,Option.bind_some,cond_true,this]
abbrev yA:Shape:=⟨[ao 0,(1,.ak (.d (.int .u8))),ae 2,bc 7 3000448,ae 8,ae 9],[bb 3000448 .str 7 0],43⟩
abbrev uu:List aO:=[(.exit 0,⟨[ao 0,bc 7 3000448,ae 8],[bb 3000448 .str 7 0],43⟩)]
noncomputable def oB(y:yA.J):bR yA uu:=
 bif(decide (y.1.2.2.2.2.2.1<(y.1.1.length:Int))) then
 bif(decide ((y.2.1.length:Int)<y.1.2.2.1)) then
(aU y.1.1 y.1.2.2.2.2.2.1).bind fun a=>
 bif((a.toNat:Int)==y.1.2.1) then
(br y.1.1 y.1.2.2.2.2.1 y.1.2.2.2.2.2.1).bind fun b=>
(cy 16 y.2.1 ([b]:List F)).bind fun c=>
 some (.inl ((y.1.1,y.1.2.1,y.1.2.2.1,(),(IntKind.i64.wrap (y.1.2.2.2.2.2.1+(1:Int))),(IntKind.i64.wrap (y.1.2.2.2.2.2.1+(1:Int))),()),c,()))
else
 some (.inl ((y.1.1,y.1.2.1,y.1.2.2.1,(),y.1.2.2.2.2.1,(IntKind.i64.wrap (y.1.2.2.2.2.2.1+(1:Int))),()),y.2.1,()))
else
 some (.inr ((y.1.1,(),y.1.2.2.2.2.1,()),y.2.1,()))
else
 some (.inr ((y.1.1,(),y.1.2.2.2.2.1,()),y.2.1,()))
noncomputable def uD:yA.J->Option (aD uu):=bv oB
theorem afX:aY U (an (codeOf Tryz.f73) 1 122) (a' yA uu uD):=bT g0 (by kernel_rfl) ag fun y=>by kernel_rfl
abbrev i73:Shape:=⟨[ao 0,(1,.ak (.d (.int .u8))),ae 2],[],43⟩
abbrev WO:Shape:=⟨[bc 6 3000384],[bb 3000384 .str 6 0],43⟩
noncomputable def f73(a:i73.J):Option WO.J:=
(uD ((a.1.1,a.1.2.1,a.1.2.2.1,(),(0:Int),(0:Int),()),([]:List F),())).bind fun b=>
(br b.1.1 b.1.2.2.1 (b.1.1.length:Int)).bind fun c=>
(cy 16 b.2.1 ([c]:List F)).bind fun d=>
 some (((),()),d,())
noncomputable def tF:aH:=aP aj Tryz.f73 i73 WO [] f73
theorem vR:aG U 73 tF:=aS g0 Tryz.func73 (by kernel_rfl) (ba afX ag) (fun y=>by kernel_rfl) fun a=>by kernel_rfl
abbrev cR(n:Nat):Prop:=n<=2097152
theorem pG(c:UInt8):∀s,bJ c s≠[]:=by
 intro s;induction s with
 |nil=>intro h;cases h
 |cons b r ih=>
  unfold bJ;cases b==c with
  |true=>intro h;cases h
  |false=>
   simp only[cond_false];split<;>intro h<;>cases h
def s4(acc:F):List F->List F
 |x::xs=>(acc++x)::xs
 |[]=>[acc]
theorem OX{L:List F}(h:L≠[]):s4 [] L=L:=by
 cases L with
 |nil=>exact absurd rfl h
 |cons x xs=>rfl
theorem ry(c:UInt8):∀s,(bJ c s).length<=s.length+1:=by
 intro s;induction s with
 |nil=>exact Nat.le_refl _
 |cons b r ih=>
  unfold bJ;cases b==c with
  |true=>simpa using ih
  |false=>
   simp only[cond_false];split
   ·rename_i x xs h;rw[h] at ih;simp at ih ⊢;omega
   ·simp
theorem xi(c:UInt8):∀s x,x∈bJ c s->x.length<=s.length:=by
 intro s;induction s with
 |nil=>intro x h;simp[bJ] at h;simp[h]
 |cons b r ih=>
  intro x h;unfold bJ at h;cases hb:b==c with
  |true=>
   rw[hb,cond_true] at h;rcases List.mem_cons.1 h with rfl|h
   ·simp
   ·have:=ih x h;simp;omega
  |false=>
   rw[hb,cond_false] at h;split at h
   ·rename_i y bd hy;rcases List.mem_cons.1 h with rfl|h
    ·have:=ih y (by rw[hy];exact List.mem_cons_self);simp;omega
    ·have:=ih x (by rw[hy];exact List.mem_cons_of_mem _ h);simp;omega
   ·simp at h;simp[h]
theorem afo{bh:Type}(c:UInt8)(s:F)(fin:Nat×List F->bh):∀(r:F) (k:Nat) (q:Nat×List F),r=s.drop k->k<=s.length->q.1<=k->
  ∃fl,eK (fun i x (q:Nat×List F)=>some (.inl (bif(x.toNat:Int)==(c.toNat:Int) then(i+1,q.2++[(s.take i).drop q.1]) else q):Sum (Nat×List F) bh)) fin k r q=some (fin fl)/\fl.1<=s.length/\
   fl.2++[s.drop fl.1]=q.2++s4 ((s.take k).drop q.1) (bJ c r):=by
 intro r;induction r with
 |nil=>
  intro k q hr hk ar;have hkl:k=s.length:=by
   have:=congrArg List.length hr;simp at this;omega
  refine⟨q,rfl,by omega,?_⟩
  rw[hkl,List.take_length];simp[bJ,s4]
 |cons x r ih=>
  intro k q hr hk ar;have hlt:k<s.length:=by
   have:=congrArg List.length hr;simp at this;omega
  have dp:r=s.drop (k+1):=by
   have:=congrArg List.tail hr;simpa using this
  have hx:s[k]? =some x:=by
   have:=congrArg (fun l=>l[0]?) hr
   simpa using this.symm
  simp only[eK];cases hc:((x.toNat:Int)==(c.toNat:Int)) with
  |true=>
   have JN:x=c:=by
    simp only[beq_iff_eq] at hc;exact UInt8.toNat_inj.1 (by omega)
   simp only[cond_true];obtain⟨fl,h1,h2,h3⟩:=ih (k+1) (k+1,q.2++[(s.take k).drop q.1]) dp hlt (Nat.le_refl _);refine⟨fl,h1,h2,h3.trans ?_⟩;have e1:(s.take (k+1)).drop (k+1)=[]:=List.drop_eq_nil_of_le (by rw[List.length_take];omega)
   simp only[e1];rw[OX (pG c r)];subst JN;have:bJ x (x::r)=[]::bJ x r:=by simp[bJ]
   rw[this];simp[s4]
  |false=>
   have JN:(x==c)=false:=by
    cases h:x==c with
    |false=>rfl
    |true=>rw[eq_of_beq h] at hc;simp at hc
   simp only[cond_false];obtain⟨fl,h1,h2,h3⟩:=ih (k+1) q dp hlt (by omega)
   refine⟨fl,h1,h2,h3.trans ?_⟩;have e1:(s.take (k+1)).drop q.1=(s.take k).drop q.1++[x]:=by
    rw[List.take_add_one,hx];rw[List.drop_append_of_le_length (by rw[List.length_take];omega)]
    rfl
   rw[e1];have:bJ c (x::r)=s4 [x] (bJ c r):=by
    rw[bJ,JN,cond_false];cases h:bJ c r with
    |nil=>rfl
    |cons y bd=>rfl
   rw[this];cases h:bJ c r with
   |nil=>exact absurd h (pG c r)
   |cons y bd=>simp[s4]
theorem Pa(c:UInt8)(a)(hs:cR a.1.1.length)(hb:a.1.2.1=(c.toNat:Int))(hm:a.1.2.2.1=((a.1.1.length+1:Nat):Int)):f73 a=some (((),()),(bJ c a.1.1,())):=by
 obtain⟨⟨s,b,m,u⟩,b5⟩:=a;obtain rfl:b=(c.toNat:Int):=hb;obtain rfl:m=((s.length+1:Nat):Int):=hm;have hs:s.length<=2097152:=hs;have key:=lF oB s (fun i (q:Nat×List F)=>((s,((c.toNat:Int),(((s.length+1:Nat):Int),((),((q.1:Int),((i:Int),())))))),(q.2,())))
  (fun i x (q:Nat×List F)=>some (.inl (bif(x.toNat:Int)==(c.toNat:Int) then(i+1,q.2++[(s.take i).drop q.1]) else q))) (fun q=>(((s,((),((q.1:Int),()))),(q.2,())):aD uu))
  (fun i q=>q.1<=i/\q.2.length<=i) (0,[]) ⟨Nat.le_refl _,Nat.le_refl _⟩ (fun i x q hx dq=>?_) (fun q dq=>?_)
 ·obtain⟨fl,h1,h2,h3⟩:=afo c s (fun q=>(((s,((),((q.1:Int),()))),(q.2,())):aD uu)) s 0 (0,[]) rfl (Nat.zero_le _) (Nat.le_refl _)
  have key:uD ((s,((c.toNat:Int),(((s.length+1:Nat):Int),((),((0:Int),((0:Int),())))))),(([]:List F),()))=some ((s,((),((fl.1:Int),()))),(fl.2,())):=key.trans h1;simp only[f73,key,Option.bind_some];rw[gu h2];have h3:fl.2++[s.drop fl.1]=bJ c s:=by
   rw[h3];simp only[List.take_zero,List.drop_nil,List.nil_append];exact OX (pG c s)
  have hl:fl.2.length<=s.length+1:=by
   have:=congrArg List.length h3;have aw:=ry c s;simp only[List.length_append,List.length_cons,List.length_nil] at this;omega
  simp only[Option.bind_some];rw[d' (by decide) (by unfold ap;simp only[List.length_cons,List.length_nil];omega)]
  simp only[Option.bind_some,h3]
 ·have hi:=cS hx;have hw:ap i:=by unfold ap;omega
  obtain⟨h0,h1⟩:=dq;have hlt:decide ((q.2.length:Int)<((s.length+1:Nat):Int))=true:=b8 (by omega)
  refine⟨?_,fun fl n4=>?_⟩
  ·simp only[oB,b8 hi,cond_true,hlt,bX,hx,Option.bind_some];cases hc:((x.toNat:Int)==(c.toNat:Int)) with
   |true=>
    simp only[cond_true];rw[pO h0 (by omega)]
    simp only[Option.bind_some];rw[d' (by decide) (by unfold ap;simp only[List.length_cons,List.length_nil];omega)]
    simp only[Option.bind_some,Option.map_some,bS hw]
   |false=>simp only[cond_false,Option.map_some,bS hw]
  ·simp only[Option.some.injEq,Sum.inl.injEq] at n4;subst n4;cases (x.toNat:Int)==(c.toNat:Int) with
   |true=>simp only[cond_true,List.length_append,List.length_cons,List.length_nil];omega
   |false=>simp only[cond_false];omega
 ·simp only[oB,dh,cond_false]
noncomputable def R8:aH:=DZ
theorem ai5:aG U 271 R8:=_t (fn:=Tryz.f271) (by kernel_rfl) (by kernel_rfl) (by kernel_rfl) (by kernel_rfl) (by kernel_rfl)
noncomputable abbrev amx:bi:=[(271,R8)]
theorem anJ:a_ U (bg aj amx):=bf ⟨ai5,⟨⟩⟩
abbrev i244:Shape:=⟨[ao 0,(1,.ak (.d (.int .u8)))],[],8⟩
abbrev SL:Shape:=⟨[ae 4],[],8⟩
noncomputable def f244(a:i244.J):Option SL.J:=
(some ()).bind fun auH=>
 some (((Lib.indexByte a.1.1 (a.1.2.1).toNat.toUInt8),()),())
noncomputable def UO:aH:=aP aj Tryz.f244 i244 SL [] f244
theorem akn:aG U 244 UO:=aS anJ Tryz.func244 (by kernel_rfl) ag (fun y=>by kernel_rfl) fun a=>by kernel_rfl
noncomputable abbrev amJ:bi:=[(244,UO)]
theorem V0:a_ U (bg aj amJ):=bf ⟨akn,⟨⟩⟩
abbrev PE:Shape:=⟨[ao 0,ao 1,ae 5],[],143⟩
abbrev Pm:List aO:=[(.norm,⟨[ao 0,ao 1,ae 5,au 16],[],143⟩)]
noncomputable def zn(y:PE.J):Option (aD Pm):=
 bif(!(y.1.2.2.1==(0:Int))) then
 some ((y.1.1,y.1.2.1,y.1.2.2.1,(y.1.2.1==y.1.1),()),())
else
 some ((y.1.1,y.1.2.1,y.1.2.2.1,true,()),())
theorem agb:aY U (an (codeOf Tryz.f209) 1 56) (a' PE Pm zn):=cW V0 (by kernel_rfl) ag fun y=>by kernel_rfl
abbrev i209:Shape:=⟨[ao 0,ao 1],[],143⟩
abbrev S2:Shape:=⟨[ae 4],[],143⟩
noncomputable def f209(a:i209.J):Option S2.J:=
(zn ((a.1.1,a.1.2.1,(a.1.2.1.length:Int),()),())).bind fun tM=>
 bif tM.1.2.2.2.1 then
 some (((0:Int),()),())
else
 bif(tM.1.2.2.1==(1:Int)) then
(aU tM.1.2.1 (0:Int)).bind fun KZ=>
(f244 ((tM.1.1,(KZ.toNat:Int),()),())).bind fun r8=>
 some ((r8.1.1,()),())
else
 bif(decide (tM.1.2.2.1>=(tM.1.1.length:Int))) then
 some ((((-1):Int),()),())
else
 none
noncomputable def I0:aH:=aP aj Tryz.f209 i209 S2 [] f209
theorem Sg:aG U 209 I0:=aS V0 Tryz.func209 (by kernel_rfl) (ba agb ag) (fun y=>by kernel_rfl) fun a=>by kernel_rfl
noncomputable abbrev amH:bi:=[(209,I0)]
theorem anR:a_ U (bg aj amH):=bf ⟨Sg,⟨⟩⟩
abbrev i212:Shape:=⟨[ao 0,ao 1],[],8⟩
abbrev S0:Shape:=⟨[ae 4],[],8⟩
noncomputable def f212(a:i212.J):Option S0.J:=
(f209 ((a.1.1,a.1.2.1,()),())).bind fun b=>
 some ((b.1.1,()),())
noncomputable def BD:aH:=aP aj Tryz.f212 i212 S0 [] f212
theorem z212:aG U 212 BD:=aS anR Tryz.func212 (by kernel_rfl) ag (fun y=>by kernel_rfl) fun a=>by kernel_rfl
noncomputable abbrev IS:Ctx:=bg aj [(212,BD)]
noncomputable def Bx:Code:=codeOf Tryz.f266
noncomputable def nQ:Code:=da (an Bx 1 12)
noncomputable def AW(p j:Nat):Oper:=(opsOf (an nQ 24 p)).getD j default
noncomputable def HT(j:Nat):Oper:=(opsOf (an Bx 1 7)).getD j default
theorem aiu(c:UInt8)(r:F):f212 ((r,([c],())),())=some ((Lib.indexByte r c,()),()):=by
 have h0:aU ([c]:F) (0:Int)=some c:=rfl;have h1:((([c]:F).length:Int)==0)=false:=rfl;have h2:((([c]:F).length:Int)==1)=true:=rfl;have h3:((c.toNat:Int)).toNat.toUInt8=c:=by simp
 simp only[f212,f209,zn,f244,h0,h1,h2,h3,Bool.not_false,cond_true,cond_false,Option.bind_some,Option.bind];by_cases h:(([c]:F)==r)=true
 ·have:r=[c]:=(by simpa using h:[c]=r).symm
  subst this;simp[Lib.indexByte]<;>rfl
 ·simp[h]<;>rfl
theorem ajZ(c:UInt8)(r:F):exec (gK IS []) (an nQ 24 96) 96 (mP 52 c r) (Bp (gK IS []) 52 7 8 (an nQ 24 194) (an nQ 24 390) 194 390)=
 (f212 ((r,([c],())),())).bind fun q=>bif decide (q.1.1<0) then some (.inl (kL 52 c r)) else(br r 0 (IntKind.i64.wrap (q.1.1+0))).bind fun x=>some (.inr ((q.1.1,x),kL 52 c r)):=by kernel_rfl
theorem RT:u4 U 266:=
 ag0 (C:=gK IS []) (bf ⟨z212,⟨⟩⟩) (fn:=Tryz.f266) (k:=52) (A:=an Bx 1 2) (r5:=an nQ 24 96) (c6:=an nQ 24 194) (r7:=an nQ 24 390) (r9:=an nQ 24 783)
  (o0:=AW 1564 0) (o1:=AW 1564 1) (o2:=AW 1564 2) (o3:=AW 1564 3) (q0:=HT 0) (q1:=HT 1) (q2:=HT 2) (pA:=2) (p5:=96) (p6:=194) (p7:=390) (p9:=783) (t7:=7) (t8:=8) (a1:=39) (a2:=40)
  (t41:=41) (t42:=42) (u1:=49) (u2:=50) (ty:=#[9]) (BU:=#[9])
  {T':=(by kernel_rfl),nt:=(by kernel_rfl),cL:=(by decide),fa:=(by kernel_rfl),XV:=enters_of Tryz.func266 (by kernel_rfl) rfl,body:=⟨sC (an nQ 24 1564),sC (an Bx 1 7),(by kernel_rfl)⟩,wP:=(by kernel_rfl),wr:=(by kernel_rfl),
   bf:=⟨(by kernel_rfl),(by kernel_rfl),(by kernel_rfl),(by kernel_rfl),(by kernel_rfl),(by kernel_rfl),(by kernel_rfl)⟩,YP:=(by kernel_rfl),YO:=(by kernel_rfl),d2:=(by kernel_rfl),Ip:=(by decide),c2:=(by kernel_rfl),d5:=(by kernel_rfl),
   kr:=⟨kX (by kernel_rfl) ag,kX (by kernel_rfl) ag,kX (by kernel_rfl) ag,kX (by kernel_rfl) ag,kX (by kernel_rfl) ag⟩,
   dZ:=fun c r=>(by kernel_rfl),hB:=fun c r=>(ajZ c r).trans (by rw[aiu];rfl),be:=fun c r i x v=>(by kernel_rfl),h3:=fun c r b=>(by kernel_rfl),XS:=(by kernel_rfl),wX:=fun c r i=>(by kernel_rfl),CH:=fun c r v=>(by kernel_rfl)}
  (by kernel_rfl) (by decide)
noncomputable abbrev am8:bi:=[(115,BE)]
theorem Jf:a_ U (bg aj am8):=bf ⟨H6,⟨⟩⟩
abbrev Ny:Shape:=⟨[aM 2 2 0,aM 3 3 0,aM 4 4 0,ae 6,au 7],[bx 5000128 .i64 2 0,aL 2 [.own 5000128],aL 3 [ly],bx 5000256 .i64 4 0,aL 4 [.own 5000256]],28⟩
abbrev Nf:List aO:=[(.norm,⟨[aM 2 2 0,aM 3 3 0,aM 4 4 0,ae 6,au 22],[bx 5000128 .i64 2 0,aL 2 [.own 5000128],aL 3 [ly],bx 5000256 .i64 4 0,aL 4 [.own 5000256]],28⟩)]
noncomputable def D3(y:Ny.J):Option (aD Nf):=
 bif(!(!y.1.2.2.2.2.1)) then
 some (((),(),(),y.1.2.2.2.1,((y.2.2.2.2.1.length:Int)==(4:Int)),()),y.2.1,((),()),(y.2.2.2.1.1,()),y.2.2.2.2.1,((),()),())
else
 some (((),(),(),y.1.2.2.2.1,true,()),y.2.1,((),()),(y.2.2.2.1.1,()),y.2.2.2.2.1,((),()),())
theorem acF:aY U (an (jS (an (codeOf Tryz.f151) 1 58)) 117 1876) (a' Ny Nf D3):=cW Jf (by kernel_rfl) ag fun y=>by kernel_rfl
abbrev yU:Shape:=⟨[aM 2 2 0,aM 3 3 0,aM 4 4 0],[bx 5000128 .i64 2 0,aL 2 [.own 5000128],aL 3 [ly],bx 5000256 .i64 4 0,aL 4 [.own 5000256]],28⟩
abbrev FC:List aO:=[(.norm,⟨[aM 2 2 0,aM 3 3 0,aM 4 4 0],[bx 5000128 .i64 2 0,aL 2 [.own 5000128],aL 3 [ly],bx 5000256 .i64 4 0,aL 4 [.own 5000256]],28⟩),(.ret,⟨[aM 2 2 0,aM 3 3 0],[bx 5000128 .i64 2 0,aL 2 [.own 5000128],aL 3 [ly]],28⟩)]
noncomputable def sa(x:F)(y:yU.J):bR yU FC:=
(f115 ((x,(999:Int),()),())).bind fun a=>
(D3 (((),(),(),a.1.1,a.1.2.1,()),y.2.1,((),()),(y.2.2.2.1.1,()),y.2.2.2.2.1,((),()),())).bind fun b=>
 bif b.1.2.2.2.2.1 then
 some (.inr (.inr (((),(),()),([]:List Int),((),()),(false,()),())))
else
(cy 8 b.2.2.2.2.1 ([b.1.2.2.2.1]:List Int)).bind fun c=>
 some (.inl (((),(),(),()),b.2.1,((),()),(b.2.2.2.1.1,()),c,((),()),()))
noncomputable def uH(y:yU.J):Option (aD FC):=
 some (.inl (((),(),(),()),y.2.1,((),()),(y.2.2.2.1.1,()),y.2.2.2.2.1,((),()),()))
theorem agu:aY U (an (codeOf Tryz.f151) 1 58) (rO 266 9 yU FC sa uH):=Mn (eN:=10) Jf RT (by kernel_rfl) (ba acF ag) (by kernel_rfl) (fun x y=>by kernel_rfl) fun y=>by kernel_rfl
abbrev i151:Shape:=⟨[ao 0],[],28⟩
abbrev Tx:Shape:=⟨[aM 2 2 0,aM 3 3 0],[bx 5000128 .i64 2 0,aL 2 [.own 5000128],aL 3 [ly]],28⟩
noncomputable def f151(a:i151.J):Option Tx.J:=
(bif Nat.ble a.1.1.length kk then ij sa uH (bJ (46:UInt8) a.1.1) (((),(),(),()),([]:List Int),((),()),(false,()),([]:List Int),((),()),()) else none).bind fun b=>
(match b with
|.inl c=>
 some (((),(),()),c.2.2.2.2.1,((),()),(true,()),())
|.inr d=>
 some (((),(),()),d.2.1,((),()),(d.2.2.2.1.1,()),()))
noncomputable def I7:aH:=aP aj Tryz.f151 i151 Tx [] f151
theorem Sk:aG U 151 I7:=aS Jf Tryz.func151 (by kernel_rfl) (ba agu ag) (fun y=>by kernel_rfl) fun a=>by kernel_rfl
noncomputable abbrev anE:bi:=[(151,I7)]
theorem an9:a_ U (bg aj anE):=bf ⟨Sk,⟨⟩⟩
abbrev i100:Shape:=⟨[ao 0],[],11⟩
abbrev T5:Shape:=⟨[au 2],[],11⟩
noncomputable def f100(a:i100.J):Option T5.J:=
(f151 ((a.1.1,()),())).bind fun b=>
 some ((b.2.2.2.1.1,()),())
noncomputable def BF:aH:=aP aj Tryz.f100 i100 T5 [] f100
theorem H7:aG U 100 BF:=aS an9 Tryz.func100 (by kernel_rfl) ag (fun y=>by kernel_rfl) fun a=>by kernel_rfl
noncomputable abbrev anD:bi:=[(99,KH),(100,BF)]
theorem Wj:a_ U (bg aj anD):=bf ⟨Wn,H7,⟨⟩⟩
abbrev OJ:Shape:=⟨[aM 1 1 0,ae 8],[aL 1 [ai,bq,ai]],21⟩
abbrev Ov:List aO:=[(.norm,⟨[aM 1 1 0,au 14],[aL 1 [ai,bq,ai]],21⟩)]
noncomputable def E8(y:OJ.J):Option (aD Ov):=
 bif(y.1.2.1==(1:Int)) then
 some (((),(y.1.2.1==(1:Int)),()),(y.2.1.1,y.2.1.2.1,y.2.1.2.2.1,()),())
else
 bif(y.1.2.1==(2:Int)) then
 some (((),(y.1.2.1==(2:Int)),()),(y.2.1.1,y.2.1.2.1,y.2.1.2.2.1,()),())
else
 some (((),(y.1.2.1==(3:Int)),()),(y.2.1.1,y.2.1.2.1,y.2.1.2.2.1,()),())
theorem aeM:aY U (an (codeOf Tryz.f102) 1 470) (a' OJ Ov E8):=cW Wj (by kernel_rfl) ag fun y=>by kernel_rfl
abbrev i102:Shape:=⟨[cC 0 [ai,bq,ai]],[],21⟩
abbrev T4:Shape:=⟨[au 2],[],21⟩
noncomputable def f102(a:i102.J):Option T4.J:=
(f99 ((a.1.1.1,()),())).bind fun b=>
 bif(!b.1.1) then
 some ((false,()),())
else
 bif(a.1.1.2.1==(0:Int)) then
 some (((a.1.1.2.2.1==([]:F)),()),())
else
(E8 (((),a.1.1.2.1,()),(a.1.1.1,a.1.1.2.1,a.1.1.2.2.1,()),())).bind fun c=>
 bif c.1.2.1 then
(f100 ((c.2.1.2.2.1,()),())).bind fun d=>
 some ((d.1.1,()),())
else
 some ((false,()),())
noncomputable def vM:aH:=aP aj Tryz.f102 i102 T4 [] f102
theorem Bi:aG U 102 vM:=aS Wj Tryz.func102 (by kernel_rfl) (ba aeM ag) (fun y=>by kernel_rfl) fun a=>by kernel_rfl
noncomputable abbrev ang:bi:=[(73,tF),(74,Ct),(75,oc)]
theorem V_:a_ U (bg aj ang):=bf ⟨vR,Jo,z75,⟨⟩⟩
abbrev ya:Shape:=⟨[bc 4 3000256,bc 5 3000320,ae 6],[bb 3000256 .str 4 0,bb 3000320 .i64 5 0],37⟩
abbrev pN:List aO:=[(.ret,⟨[bc 2 3000128,au 3],[bb 3000128 .i64 2 0],37⟩),(.exit 0,⟨[bc 4 3000256,bc 5 3000320],[bb 3000256 .str 4 0,bb 3000320 .i64 5 0],37⟩)]
noncomputable def yt(y:ya.J):bR ya pN:=
 bif(decide (y.1.2.2.1<(y.2.1.length:Int))) then
(a8 y.2.1.length y.1.2.2.1).bind fun a=>
(y.2.1[a]?).bind fun b=>
(f74 ((b,()),())).bind fun c=>
(f75 ((c.1.1,(0:Int),(999:Int),()),())).bind fun d=>
 bif(!d.1.1) then
 some (.inr (.inl (((),false,()),y.2.2.1,())))
else
(cy 8 y.2.2.1 ([c.1.1]:List Int)).bind fun e=>
 some (.inl (((),(),(IntKind.i64.wrap (y.1.2.2.1+(1:Int))),()),y.2.1,e,()))
else
 some (.inr (.inr (((),(),()),y.2.1,y.2.2.1,())))
noncomputable def ET:ya.J->Option (aD pN):=bv yt
theorem aeF:aY U (an (codeOf Tryz.f140) 1 122) (a' ya pN ET):=bT V_ (by kernel_rfl) ag fun y=>by kernel_rfl
abbrev i140:Shape:=⟨[ao 0],[],37⟩
abbrev TH:Shape:=⟨[bc 2 3000128,au 3],[bb 3000128 .i64 2 0],37⟩
noncomputable def f140(a:i140.J):Option TH.J:=
(f73 ((a.1.1,(46:Int),(IntKind.i64.wrap ((a.1.1.length:Int)+(1:Int))),()),())).bind fun b=>
(ET (((),(),(0:Int),()),b.2.1,([]:List Int),())).bind fun c=>
(match c with
|.inl d=>
 some (((),d.1.2.1,()),d.2.1,())
|.inr e=>
 some (((),(decide ((e.2.1.length:Int)<=(4:Int))),()),e.2.2.1,()))
noncomputable def I8:aH:=aP aj Tryz.f140 i140 TH [] f140
theorem Sl:aG U 140 I8:=aS V_ Tryz.func140 (by kernel_rfl) (ba aeF ag) (fun y=>by kernel_rfl) fun a=>by kernel_rfl
noncomputable abbrev ars:bi:=[(140,I8)]
theorem ar1:a_ U (bg aj ars):=bf ⟨Sl,⟨⟩⟩
abbrev i88:Shape:=⟨[ao 0],[],11⟩
abbrev WG:Shape:=⟨[au 2],[],11⟩
noncomputable def f88(a:i88.J):Option WG.J:=
(f140 ((a.1.1,()),())).bind fun b=>
 some ((b.1.2.1,()),())
noncomputable def KI:aH:=aP aj Tryz.f88 i88 WG [] f88
theorem Wo:aG U 88 KI:=aS ar1 Tryz.func88 (by kernel_rfl) ag (fun y=>by kernel_rfl) fun a=>by kernel_rfl
noncomputable abbrev amQ:bi:=[(75,oc),(87,KJ),(88,KI)]
theorem anU:a_ U (bg aj amQ):=bf ⟨z75,z87,Wo,⟨⟩⟩
abbrev i192:Shape:=⟨[cC 0 [ai,bq,ai]],[],26⟩
abbrev Ta:Shape:=⟨[au 2],[],26⟩
noncomputable def f192(a:i192.J):Option Ta.J:=
(f87 ((a.1.1.1,()),())).bind fun b=>
 bif b.1.1 then
 bif(a.1.1.2.1==(0:Int)) then
 bif(!(a.1.1.2.2.1==([]:F))) then
(f75 ((a.1.1.2.1,(1:Int),(3:Int),()),())).bind fun c=>
 bif c.1.1 then
(f88 ((a.1.1.2.2.1,()),())).bind fun d=>
 some ((d.1.1,()),())
else
 some ((false,()),())
else
 some ((true,()),())
else
(f75 ((a.1.1.2.1,(1:Int),(3:Int),()),())).bind fun e=>
 bif e.1.1 then
(f88 ((a.1.1.2.2.1,()),())).bind fun f=>
 some ((f.1.1,()),())
else
 some ((false,()),())
else
 some ((false,()),())
noncomputable def I4:aH:=aP aj Tryz.f192 i192 Ta [] f192
theorem Si:aG U 192 I4:=aS anU Tryz.func192 (by kernel_rfl) ag (fun y=>by kernel_rfl) fun a=>by kernel_rfl
theorem MC:∀(r:F) (n:Int),r.all cI=true->0<=n->0<=r.foldl dU n:=by
 intro r;induction r with
 |nil=>intro n _ h;exact h
 |cons b r ih=>
  intro n Z h;simp only[List.all_cons,Bool.and_eq_true] at Z;have hb:=ix Z.1;exact ih _ Z.2 (by unfold dU;omega)
def hX(s:F):List F:=bJ 46 s
def d_(s:F):Bool:=(hX s).all fk&&decide ((hX s).length<=4)
def hC(s:F):List Int:=(hX s).map c9
theorem _7(x:F):within (bif x.all cI&&decide (x.length<=6)&&!(x==[])&&!hY x then c9 x else-1) 0 999=fk x:=by
 unfold fk within;cases h1:x.all cI with
 |false=>simp
 |true=>
  have:=MC x 0 h1 (Int.le_refl _);have hv:decide ((0:Int)<=c9 x)=true:=by simp only[decide_eq_true_eq];exact this
  cases h2:decide (x.length<=6)<;>cases h3:(x==[])<;>cases aw:hY x<;>simp[hv]
theorem Dr(a)(hs:cR a.1.1.length):∃out,f140 a=some (((),(d_ a.1.1,())),(out,()))/\(d_ a.1.1=true->out=hC a.1.1):=by
 obtain⟨⟨s,u⟩,b5⟩:=a;have hs:s.length<=2097152:=hs;have hlen:=ry 46 s;have fF:f73 ((s,((46:Int),((IntKind.i64.wrap ((s.length:Int)+(1:Int))),()))),())=some (((),()),(hX s,())):=
  Pa 46 _ hs rfl (bS (by unfold ap;omega))
 have key:=lF yt (hX s) (fun i (out:List Int)=>(((),((),((i:Int),()))),(hX s,(out,()))))
  (fun i x out=>some (bif fk x then .inl (out++[c9 x]) else .inr ((.inl (((),(false,())),(out,()))):aD pN))) (fun out=>((.inr (((),((),())),(hX s,(out,())))):aD pN))
  (fun i out=>out.length<=i) [] (Nat.le_refl _) (fun i x out hx dq=>?_) (fun out _=>?_)
 ·have fold:∀(r:List F) (k:Nat) (out:List Int),eK (fun i x out=>some (bif fk x then .inl (out++[c9 x]) else .inr ((.inl (((),(false,())),(out,()))):aD pN))) (fun out=>((.inr (((),((),())),(hX s,(out,())))):aD pN)) k r out=
    some (bif r.all fk then(.inr (((),((),())),(hX s,(out++r.map c9,())))) else(.inl (((),(false,())),(out++(r.takeWhile fk).map c9,())))):=by
   intro r;induction r with
   |nil=>intro k out;simp[eK]
   |cons x r ih=>
    intro k out;simp only[eK,List.all_cons];cases hn:fk x with
    |false=>simp[hn]
    |true=>simp only[cond_true,Bool.true_and];rw[ih];simp[hn,List.append_assoc]
  have key:ET (((),((),((0:Int),()))),(hX s,(([]:List Int),())))=_:=key.trans (fold (hX s) 0 []);simp only[f140,fF,Option.bind_some,key,List.nil_append];unfold d_;cases mJ:(hX s).all fk with
  |false=>exact⟨_,rfl,fun h=>by cases h⟩
  |true=>
   simp only[cond_true,Bool.true_and];have:decide (((hX s).length:Int)<=4)=decide ((hX s).length<=4):=by by_cases h:(hX s).length<=4<;>simp[h]<;>omega
   rw[this];exact⟨_,rfl,fun _=>rfl⟩
 ·have hi:=cS hx;have vg:(hX s).length<=s.length+1:=hlen;have hw:ap i:=by unfold ap;omega
  have hxl:x.length<=s.length:=xi 46 s x (List.mem_of_getElem? hx);refine⟨?_,fun aC af=>?_⟩
  ·simp only[yt,b8 hi,cond_true,fq hi,hx,Option.bind_some];rw[Fi _ (show ap x.length by unfold ap;omega)]
   simp only[Option.bind_some,nB,_7];cases hn:fk x with
   |false=>rfl
   |true=>
    have hv:(bif x.all cI&&decide (x.length<=6)&&!(x==[])&&!hY x then c9 x else-1)=c9 x:=by
     unfold fk at hn;simp only[Bool.and_eq_true] at hn;obtain⟨⟨⟨⟨h1,h2⟩,h3⟩,aw⟩,bk⟩:=hn;rw[h1,aw,h2,h3];rfl
    simp only[Bool.not_true,cond_false,hv,cond_true];rw[d' (by decide) (by unfold ap;simp only[List.length_cons,List.length_nil];omega)]
    simp only[Option.bind_some,bS hw,Option.map_some]
  ·simp only[Option.some.injEq] at af;cases hn:fk x with
   |false=>rw[hn] at af;cases af
   |true=>
    rw[hn] at af;simp only[cond_true,Sum.inl.injEq] at af;subst af;simp only[List.length_append,List.length_cons,List.length_nil];omega
 ·simp only[yt,dh,cond_false]
theorem L9(a)(hs:cR a.1.1.length):f88 a=some ((d_ a.1.1,()),()):=by
 obtain⟨out,h,_⟩:=Dr ((a.1.1,()),()) hs;simp only[f88,h,Option.bind_some]
theorem CV(a)(hs:cR a.1.1.length):f151 a=some (((),((),())),((bif d_ a.1.1 then hC a.1.1 else []),(((),()),((d_ a.1.1,()),())))):=by
 obtain⟨⟨s,u⟩,b5⟩:=a;have hs:s.length<=2097152:=hs;have IJ:Nat.ble s.length kk=true:=Nat.ble_eq_true_of_le (by unfold kk;omega)
 have fold:∀(r:List F) (out:List Int),(∀x,x∈r->x.length<=s.length)->out.length<=4->
   ij sa uH r (((),((),((),()))),(([]:List Int),(((),()),((false,()),(out,(((),()),()))))))=
    some (bif r.all fk&&decide (out.length+r.length<=4) then(.inl (((),((),((),()))),(([]:List Int),(((),()),((false,()),(out++r.map c9,(((),()),()))))))) else(.inr (((),((),())),(([]:List Int),(((),()),((false,()),())))))):=by
  intro r;induction r with
  |nil=>
   intro out _ aE;have:decide (out.length+0<=4)=true:=by simpa using aE
   simp only[ij,uH,List.all_nil,List.length_nil,this,Bool.and_self,cond_true,List.map_nil,List.append_nil]
  |cons x r ih=>
   intro out hr aE;have hx:=hr x List.mem_cons_self;have alP:=adI ((x,((999:Int),())),()) (show ap x.length by unfold ap;omega) rfl
   have step:sa x (((),((),((),()))),(([]:List Int),(((),()),((false,()),(out,(((),()),()))))))=
     some (bif fk x&&decide (out.length+1<=4) then .inl (((),((),((),()))),(([]:List Int),(((),()),((false,()),(out++[c9 x],(((),()),())))))) else .inr (.inr (((),((),())),(([]:List Int),(((),()),((false,()),())))))):=by
    simp only[sa,alP,Option.bind_some,D3,Bool.not_not];have aw:((out.length:Int)==4)=!decide (out.length+1<=4):=by
     by_cases h:out.length=4
     ·rw[h];rfl
     ·have bk:decide (out.length+1<=4)=true:=by simp only[decide_eq_true_eq];omega
      rw[bk];simp only[beq_eq_false_iff_ne,ne_eq,Bool.not_true];omega
    rw[aw];cases hn:fk x with
    |false=>rfl
    |true=>
     simp only[cond_true,Option.bind_some,Bool.true_and];cases ar:decide (out.length+1<=4) with
     |false=>rfl
     |true=>
      simp only[Bool.not_true,cond_false,cond_true];rw[d' (by decide) (by unfold ap;simp only[List.length_cons,List.length_nil];omega)]
      rfl
   rw[ij,step,List.all_cons];cases hn:fk x with
   |false=>rfl
   |true=>
    simp only[Bool.true_and];cases ar:decide (out.length+1<=4) with
    |false=>
     have:decide (out.length+(x::r).length<=4)=false:=by simp only[decide_eq_false_iff_not,List.length_cons] at ar ⊢;omega
     rw[this];simp
    |true=>
     simp only[cond_true];rw[ih (out++[c9 x]) (fun y hy=>hr y (List.mem_cons_of_mem _ hy)) (by simp only[List.length_append,List.length_cons,List.length_nil];simpa using ar)]
     have e1:(out++[c9 x]).length+r.length=out.length+(x::r).length:=by simp only[List.length_append,List.length_cons,List.length_nil];omega
     rw[e1,List.map_cons,List.append_assoc];rfl
 have key:=fold (bJ (46:UInt8) s) [] (fun x hx=>xi 46 s x hx) (Nat.zero_le _)
 have It:ij sa uH (bJ (46:UInt8) s) (((),((),((),()))),(([]:List Int),(((),()),((false,()),(([]:List Int),(((),()),()))))))=
    some (bif d_ s then(.inl (((),((),((),()))),(([]:List Int),(((),()),((false,()),(hC s,(((),()),()))))))) else(.inr (((),((),())),(([]:List Int),(((),()),((false,()),())))))):=by
  rw[key];unfold d_ hC hX;simp only[List.length_nil,Nat.zero_add,List.nil_append]
 simp only[f151,IJ,cond_true,It,Option.bind_some];cases d_ s<;>rfl
theorem CY(a)(hs:cR a.1.1.length):f100 a=some ((d_ a.1.1,()),()):=by
 simp only[f100,CV ((a.1.1,()),()) hs,Option.bind_some]
def du(n:bB):Bool:=iy n.name&&(n.kind==0&&(n.aV==[])||within n.kind 1 3&&d_ n.aV)
abbrev wJ(n:bB):Prop:=cR n.name.length/\cR n.aV.length
theorem Oe(a)(h1:cR a.1.1.1.length)(h2:cR a.1.1.2.2.1.length):f192 a=some ((du ⟨a.1.1.1,a.1.1.2.1,a.1.1.2.2.1⟩,()),()):=by
 obtain⟨⟨⟨n,k,v,u⟩,b5⟩,j8⟩:=a;have h1:n.length<=2097152:=h1;have h2:v.length<=2097152:=h2;have e1:=Ob ((n,()),()) (show ap n.length by unfold ap;omega)
 have e2:=L9 ((v,()),()) h2;simp only[f192,e1,e2,nB,Option.bind_some,du];cases iy n with
 |false=>rfl
 |true=>
  cases hk:(k==0) with
  |false=>
   simp only[cond_true,cond_false];cases within k 1 3<;>cases d_ v<;>rfl
  |true=>
   have:within k 1 3=false:=by
    have:k=0:=by simpa using hk
    subst this;decide
   rw[this];cases (v==[])<;>rfl
theorem abE{k:Int}(lw:¬k=0)(aB:¬k=1)(aA:¬k=2)(bC:¬k=3):within k 1 3=false:=by
 unfold within;cases h:(decide (1<=k)&&decide (k<=3)) with
 |false=>rfl
 |true=>simp only[Bool.and_eq_true,decide_eq_true_eq] at h;omega
theorem xy(a)(h1:cR a.1.1.1.length)(h2:cR a.1.1.2.2.1.length):f102 a=some ((du ⟨a.1.1.1,a.1.1.2.1,a.1.1.2.2.1⟩,()),()):=by
 obtain⟨⟨⟨n,k,v,u⟩,b5⟩,j8⟩:=a;have h1:n.length<=2097152:=h1;have h2:v.length<=2097152:=h2;have e1:=LU ((n,()),()) (show ap n.length by unfold ap;omega)
 have e2:=CY ((v,()),()) h2;simp only[f102,e1,e2,Option.bind_some,du,E8];cases iy n with
 |false=>rfl
 |true=>
  simp only[Bool.not_true,cond_false,Bool.true_and];by_cases lw:k=0
  ·subst lw;cases (v==[])<;>rfl
  ·have ph:(k==0)=false:=by simpa using lw
   rw[ph];by_cases aB:k=1
   ·subst aB;cases hv:d_ v<;>simp[within,e2,hv]
   ·have qR:(k==1)=false:=by simpa using aB
    rw[qR];by_cases aA:k=2
    ·subst aA;cases hv:d_ v<;>simp[within,e2,hv]
    ·have hk2:(k==2)=false:=by simpa using aA
     rw[hk2];by_cases bC:k=3
     ·subst bC;cases hv:d_ v<;>simp[within,e2,hv]
     ·have ap7:(k==3)=false:=by simpa using bC
      rw[ap7];rw[abE lw aB aA bC];rfl
noncomputable abbrev ai0:bi:=[(102,vM)]
theorem RA:a_ U (bg aj ai0):=bf ⟨Bi,⟨⟩⟩
abbrev xN:Shape:=⟨[(1,.ak (.fn 102 [])),aK 7 .need,ae 8,ae 9],[],18⟩
abbrev DC:List aO:=[(.ret,⟨[au 4],[],18⟩),(.exit 0,⟨[],[],18⟩)]
noncomputable def xX(y:xN.J):bR xN DC:=
 bif(decide (y.1.2.2.2.1<y.1.2.2.1)) then
(aU y.1.2.1 y.1.2.2.2.1).bind fun a=>
(f102 (((a.name,a.kind,a.aV,()),()),())).bind fun b=>
 bif(!b.1.1) then
 some (.inr (.inl ((false,()),())))
else
 some (.inl (((),y.1.2.1,y.1.2.2.1,(IntKind.i64.wrap (y.1.2.2.2.1+(1:Int))),()),()))
else
 some (.inr (.inr ((),())))
noncomputable def DX:xN.J->Option (aD DC):=bv xX
theorem acR:aY U (an (codeOf Tryz.f101) 1 26) (a' xN DC DX):=bT RA (by kernel_rfl) ag fun y=>by kernel_rfl
abbrev Ra:Shape:=⟨[aK 0 .need,(1,.ak (.fn 102 []))],[],18⟩
abbrev QX:Shape:=⟨[au 4],[],18⟩
noncomputable def AL(a:Ra.J):Option QX.J:=
(DX (((),a.1.1,(a.1.1.length:Int),(0:Int),()),())).bind fun b=>
(match b with
|.inl c=>
 some ((c.1.1,()),())
|.inr d=>
 some ((true,()),()))
noncomputable def Rv:aH:=aP aj Tryz.f101 Ra QX [] AL
theorem ahC:aG U 101 Rv:=aS RA Tryz.func101 (by kernel_rfl) (ba acR ag) (fun y=>by kernel_rfl) fun a=>by kernel_rfl
abbrev i104:Shape:=⟨[cC 0 [ai,bq,ai]],[],5⟩
abbrev T3:Shape:=⟨[ao 2],[],5⟩
noncomputable def f104(a:i104.J):Option T3.J:=
 some ((a.1.1.1,()),())
noncomputable def VW:aH:=aP aj Tryz.f104 i104 T3 [] f104
theorem ak6:aG U 104 VW:=aS g0 Tryz.func104 (by kernel_rfl) ag (fun y=>by kernel_rfl) fun a=>by kernel_rfl
abbrev i149:Shape:=⟨[aK 0 .str],[],8⟩
abbrev Il:Shape:=⟨[bc 2 3000128],[bb 3000128 .str 2 0],8⟩
noncomputable def f149(a:i149.J):Option Il.J:=
 pK (t:=.str) a.1.1 (some (((),()),([]:List F),())) ((cy 16 ([]:List F) a.1.1).bind fun b=>
 some (((),()),b,()))
noncomputable def Vv:aH:=aP aj Tryz.f149 i149 Il [] f149
theorem akS:aG U 149 Vv:=aS g0 Tryz.func149 (by kernel_rfl) ag (fun y=>by kernel_rfl) fun a=>by kernel_rfl
abbrev yM:Shape:=⟨[aK 0 .str,ao 1,ae 7,ae 8],[],19⟩
abbrev rU:List aO:=[(.ret,⟨[ae 4],[],19⟩),(.exit 0,⟨[],[],19⟩)]
noncomputable def zo(y:yM.J):bR yM rU:=
 bif(decide (y.1.2.2.2.1<y.1.2.2.1)) then
(aU y.1.1 y.1.2.2.2.1).bind fun a=>
 bif(y.1.2.1==a) then
 some (.inr (.inl ((y.1.2.2.2.1,()),())))
else
 some (.inl ((y.1.1,y.1.2.1,y.1.2.2.1,(IntKind.i64.wrap (y.1.2.2.2.1+(1:Int))),()),()))
else
 some (.inr (.inr ((),())))
noncomputable def F9:yM.J->Option (aD rU):=bv zo
theorem age:aY U (an (codeOf Tryz.f197) 1 26) (a' yM rU F9):=bT g0 (by kernel_rfl) ag fun y=>by kernel_rfl
abbrev i197:Shape:=⟨[aK 0 .str,ao 1],[],19⟩
abbrev Ij:Shape:=⟨[ae 4],[],19⟩
noncomputable def f197(a:i197.J):Option Ij.J:=
(F9 ((a.1.1,a.1.2.1,(a.1.1.length:Int),(0:Int),()),())).bind fun b=>
(match b with
|.inl c=>
 some ((c.1.1,()),())
|.inr d=>
 some ((((-1):Int),()),()))
noncomputable def U6:aH:=aP aj Tryz.f197 i197 Ij [] f197
theorem akA:aG U 197 U6:=aS g0 Tryz.func197 (by kernel_rfl) (ba age ag) (fun y=>by kernel_rfl) fun a=>by kernel_rfl
noncomputable abbrev am9:bi:=[(197,U6)]
theorem an1:a_ U (bg aj am9):=bf ⟨akA,⟨⟩⟩
abbrev i150:Shape:=⟨[aK 0 .str,ao 1],[],9⟩
abbrev Ty:Shape:=⟨[au 4],[],9⟩
noncomputable def f150(a:i150.J):Option Ty.J:=
(f197 ((a.1.1,a.1.2.1,()),())).bind fun b=>
 some (((decide (b.1.1>=(0:Int))),()),())
noncomputable def Vu:aH:=aP aj Tryz.f150 i150 Ty [] f150
theorem akR:aG U 150 Vu:=aS an1 Tryz.func150 (by kernel_rfl) ag (fun y=>by kernel_rfl) fun a=>by kernel_rfl
noncomputable abbrev aiZ:bi:=[(104,VW),(149,Vv),(150,Vu)]
theorem Rz:a_ U (bg aj aiZ):=bf ⟨ak6,akS,akR,⟨⟩⟩
abbrev xM:Shape:=⟨[(1,.ak (.fn 104 [])),bc 7 3000448,aK 12 .need,ae 13,ae 14],[bb 3000448 .str 7 0],30⟩
abbrev rG:List aO:=[(.ret,⟨[au 6],[],30⟩),(.exit 0,⟨[],[],30⟩)]
noncomputable def xW(y:xM.J):bR xM rG:=
 bif(decide (y.1.2.2.2.2.1<y.1.2.2.2.1)) then
(aU y.1.2.2.1 y.1.2.2.2.2.1).bind fun a=>
(f104 (((a.name,a.kind,a.aV,()),()),())).bind fun b=>
(f150 ((y.2.1,b.1.1,()),())).bind fun c=>
 bif c.1.1 then
 some (.inr (.inl ((true,()),())))
else
(f104 (((a.name,a.kind,a.aV,()),()),())).bind fun d=>
(cy 16 y.2.1 ([d.1.1]:List F)).bind fun e=>
 some (.inl (((),(),y.1.2.2.1,y.1.2.2.2.1,(IntKind.i64.wrap (y.1.2.2.2.2.1+(1:Int))),()),e,()))
else
 some (.inr (.inr ((),())))
noncomputable def DW:xM.J->Option (aD rG):=bv xW
theorem acQ:aY U (an (codeOf Tryz.f103) 1 58) (a' xM rG DW):=bT Rz (by kernel_rfl) ag fun y=>by kernel_rfl
abbrev Q':Shape:=⟨[aK 0 .need,(1,.ak (.fn 104 [])),aK 2 .str],[],30⟩
abbrev QW:Shape:=⟨[au 6],[],30⟩
noncomputable def AK(a:Q'.J):Option QW.J:=
(f149 ((a.1.2.2.1,()),())).bind fun b=>
(DW (((),(),a.1.1,(a.1.1.length:Int),(0:Int),()),b.2.1,())).bind fun c=>
(match c with
|.inl d=>
 some ((d.1.1,()),())
|.inr e=>
 some ((false,()),()))
noncomputable def Ru:aH:=aP aj Tryz.f103 Q' QW [] AK
theorem ahB:aG U 103 Ru:=aS Rz Tryz.func103 (by kernel_rfl) (ba acQ ag) (fun y=>by kernel_rfl) fun a=>by kernel_rfl
noncomputable abbrev anf:bi:=[(192,I4)]
theorem V9:a_ U (bg aj anf):=bf ⟨Si,⟨⟩⟩
abbrev yY:Shape:=⟨[aK 0 .need,ae 3],[],19⟩
abbrev FG:List aO:=[(.ret,⟨[au 2],[],19⟩),(.exit 0,⟨[aK 0 .need],[],19⟩)]
noncomputable def zA(y:yY.J):bR yY FG:=
 bif(decide (y.1.2.1<(y.1.1.length:Int))) then
(aU y.1.1 y.1.2.1).bind fun a=>
(f192 (((a.name,a.kind,a.aV,()),()),())).bind fun b=>
 bif(!b.1.1) then
 some (.inr (.inl ((false,()),())))
else
 some (.inl ((y.1.1,(IntKind.i64.wrap (y.1.2.1+(1:Int))),()),()))
else
 some (.inr (.inr ((y.1.1,()),())))
noncomputable def Gh:yY.J->Option (aD FG):=bv zA
theorem agy:aY U (an (codeOf Tryz.f141) 1 26) (a' yY FG Gh):=bT V9 (by kernel_rfl) ag fun y=>by kernel_rfl
abbrev i141:Shape:=⟨[aK 0 .need],[],19⟩
abbrev TG:Shape:=⟨[au 2],[],19⟩
noncomputable def f141(a:i141.J):Option TG.J:=
(Gh ((a.1.1,(0:Int),()),())).bind fun b=>
(match b with
|.inl c=>
 some ((c.1.1,()),())
|.inr d=>
 some (((decide ((d.1.1.length:Int)<=(6:Int))),()),()))
noncomputable def VD:aH:=aP aj Tryz.f141 i141 TG [] f141
theorem z141:aG U 141 VD:=aS V9 Tryz.func141 (by kernel_rfl) (ba agy ag) (fun y=>by kernel_rfl) fun a=>by kernel_rfl
abbrev xH:Shape:=⟨[aK 0 .str,ae 3,ae 4],[],25⟩
abbrev Dx:List aO:=[(.ret,⟨[au 2],[],25⟩),(.exit 2,⟨[aK 0 .str,ae 3],[],25⟩)]
noncomputable def xS(y:xH.J):bR xH Dx:=
 bif(decide (y.1.2.2.1<y.1.2.1)) then
(aU y.1.1 y.1.2.2.1).bind fun a=>
(aU y.1.1 y.1.2.1).bind fun b=>
 bif(a==b) then
 some (.inr (.inl ((true,()),())))
else
 some (.inl ((y.1.1,y.1.2.1,(IntKind.i64.wrap (y.1.2.2.1+(1:Int))),()),()))
else
 some (.inr (.inr ((y.1.1,y.1.2.1,()),())))
noncomputable def DR:xH.J->Option (aD Dx):=bv xS
theorem acH:aY U (an (da (an (codeOf Tryz.f142) 1 26)) 52 1682) (a' xH Dx DR):=bT g0 (by kernel_rfl) ag fun y=>by kernel_rfl
abbrev yX:Shape:=⟨[aK 0 .str,ae 3],[],25⟩
abbrev FF:List aO:=[(.ret,⟨[au 2],[],25⟩),(.exit 0,⟨[],[],25⟩)]
noncomputable def zz(y:yX.J):bR yX FF:=
 bif(decide (y.1.2.1<(y.1.1.length:Int))) then
(DR ((y.1.1,y.1.2.1,(0:Int),()),())).bind fun a=>
(match a with
|.inl b=>
 some (.inr (.inl ((b.1.1,()),())))
|.inr c=>
 some (.inl ((c.1.1,(IntKind.i64.wrap (c.1.2.1+(1:Int))),()),())))
else
 some (.inr (.inr ((),())))
noncomputable def Gg:yX.J->Option (aD FF):=bv zz
theorem agx:aY U (an (codeOf Tryz.f142) 1 26) (a' yX FF Gg):=bT g0 (by kernel_rfl) (ba acH ag) fun y=>by kernel_rfl
abbrev i142:Shape:=⟨[aK 0 .str],[],25⟩
abbrev TF:Shape:=⟨[au 2],[],25⟩
noncomputable def f142(a:i142.J):Option TF.J:=
(Gg ((a.1.1,(0:Int),()),())).bind fun b=>
(match b with
|.inl c=>
 some ((c.1.1,()),())
|.inr d=>
 some ((false,()),()))
noncomputable def VC:aH:=aP aj Tryz.f142 i142 TF [] f142
theorem akV:aG U 142 VC:=aS g0 Tryz.func142 (by kernel_rfl) (ba agx ag) (fun y=>by kernel_rfl) fun a=>by kernel_rfl
noncomputable abbrev arq:bi:=[(141,VD),(142,VC)]
theorem Yx:a_ U (bg aj arq):=bf ⟨z141,akV,⟨⟩⟩
abbrev z':Shape:=⟨[aK 1 .need,bc 5 3000320,ae 6],[bb 3000320 .str 5 0],30⟩
abbrev zY:List aO:=[(.exit 0,⟨[aK 1 .need,bc 5 3000320],[bb 3000320 .str 5 0],30⟩)]
noncomputable def Ax(y:z'.J):bR z' zY:=
 bif(decide (y.1.2.2.1<(y.1.1.length:Int))) then
(aU y.1.1 y.1.2.2.1).bind fun a=>
(cy 16 y.2.1 ([a.name]:List F)).bind fun b=>
 some (.inl ((y.1.1,(),(IntKind.i64.wrap (y.1.2.2.1+(1:Int))),()),b,()))
else
 some (.inr ((y.1.1,(),()),y.2.1,()))
noncomputable def Hl:z'.J->Option (aD zY):=bv Ax
theorem ah1:aY U (an (codeOf Tryz.f89) 1 58) (a' z' zY Hl):=bT Yx (by kernel_rfl) ag fun y=>by kernel_rfl
abbrev i89:Shape:=⟨[ao 0,aK 1 .need],[],30⟩
abbrev WF:Shape:=⟨[au 4],[],30⟩
noncomputable def f89(a:i89.J):Option WF.J:=
(Hl ((a.1.2.1,(),(0:Int),()),([a.1.1]:List F),())).bind fun b=>
(f141 ((b.1.1,()),())).bind fun c=>
 bif c.1.1 then
(f142 ((b.2.1,()),())).bind fun d=>
 some (((!d.1.1),()),())
else
 some ((false,()),())
noncomputable def X4:aH:=aP aj Tryz.f89 i89 WF [] f89
theorem aog:aG U 89 X4:=aS Yx Tryz.func89 (by kernel_rfl) (ba ah1 ag) (fun y=>by kernel_rfl) fun a=>by kernel_rfl
abbrev s_(ns:List bB):Prop:=cR ns.length/\∀n,n∈ns->wJ n
theorem Bo(n:Nat)(k:Nat):decide ((n:Int)<=(k:Int))=decide (n<=k):=by by_cases h:n<=k<;>simp[h]<;>omega
theorem abQ(a)(hs:s_ a.1.1):f141 a=some ((a.1.1.all du&&decide (a.1.1.length<=6),()),()):=by
 obtain⟨⟨ns,u⟩,b5⟩:=a;obtain⟨hl,hn⟩:=hs;have hl:ns.length<=2097152:=hl;have key:Gh ((ns,((0:Int),())),())=some (bif allI (fun _ n=>du n) 0 ns then .inr ((ns,()),()) else .inl ((false,()),())):=by
  refine fZ zA ns (fun i=>((ns,((i:Int),())),())) _ _ _ (fun i x hx=>?_) ?_
  ·have hi:=cS hx;have hw:ap i:=by unfold ap;omega
   have hb:=hn x (List.mem_of_getElem? hx);simp only[zA,b8 hi,cond_true,bX,hx,Option.bind_some];rw[Oe _ hb.1 hb.2];simp only[Option.bind_some,bS hw];cases du x<;>rfl
  ·simp only[zA,dh,cond_false]
 rw[gH] at key;simp only[f141,key,Option.bind_some];cases List.all ns du with
 |false=>rfl
 |true=>have:=Bo ns.length 6;simp only[cond_true,Bool.true_and];rw[<-this];rfl
theorem ab2(a)(hs:s_ a.1.1):AL a=some ((a.1.1.all du,()),()):=by
 obtain⟨⟨ns,u⟩,b5⟩:=a;obtain⟨hl,hn⟩:=hs;have hl:ns.length<=2097152:=hl;have key:DX (((),(ns,((ns.length:Int),((0:Int),())))),())=some (bif allI (fun _ n=>du n) 0 ns then .inr ((),()) else .inl ((false,()),())):=by
  refine fZ xX ns (fun i=>(((),(ns,((ns.length:Int),((i:Int),())))),())) _ _ _ (fun i x hx=>?_) ?_
  ·have hi:=cS hx;have hw:ap i:=by unfold ap;omega
   have hb:=hn x (List.mem_of_getElem? hx);simp only[xX,b8 hi,cond_true,bX,hx,Option.bind_some];rw[xy _ hb.1 hb.2];simp only[Option.bind_some,bS hw];cases du x<;>rfl
  ·simp only[xX,dh,cond_false]
 rw[gH] at key;simp only[AL,key,Option.bind_some];cases List.all ns du<;>rfl
def jA:List F->List F->Bool
 |_,[]=>false
 |acc,x::r=>acc.contains x||jA (acc++[x]) r
theorem afk(xs:List F):∀(r:List F) (k:Nat),r=xs.drop k->allI (fun i x=>!((xs.take i).contains x)) k r=!jA (xs.take k) r:=by
 intro r;induction r with
 |nil=>intro k _;rfl
 |cons x r ih=>
  intro k hr;have dp:r=xs.drop (k+1):=by
   have:=congrArg List.tail hr;simpa using this
  have hx:xs[k]? =some x:=by
   have:=congrArg (fun l=>l[0]?) hr
   simpa using this.symm
  have e1:xs.take (k+1)=xs.take k++[x]:=by rw[List.take_add_one,hx];rfl
  simp only[allI,jA,ih (k+1) dp,e1,Bool.not_or]
theorem ahp(bd:List F)(x:F):bd.all (fun y=>!(y==x))=!bd.contains x:=by
 induction bd with
 |nil=>rfl
 |cons y bd ih=>
  simp only[List.all_cons,ih,List.contains_cons,Bool.not_or];congr 2
  cases h:y==x with
  |true=>rw[eq_of_beq h];simp
  |false=>
   cases h2:x==y with
   |true=>rw[eq_of_beq h2] at h;simp at h
   |false=>rfl
theorem abP(a)(hs:cR a.1.1.length):f142 a=some ((jA [] a.1.1,()),()):=by
 obtain⟨⟨xs,u⟩,b5⟩:=a;have hs:xs.length<=2097152:=hs;have inner:∀(i:Nat) (x:F),xs[i]? =some x->DR ((xs,((i:Int),((0:Int),()))),())=some (bif !((xs.take i).contains x) then .inr ((xs,((i:Int),())),()) else .inl ((true,()),())):=by
  intro i x hx;have hi:=cS hx;have hl:(xs.take i).length=i:=by rw[List.length_take];omega
  have:=fZ xS (xs.take i) (fun k=>((xs,((i:Int),((k:Int),()))),())) (fun _ y=>!(y==x)) (.inl ((true,()),())) (.inr ((xs,((i:Int),())),())) (fun k y hy=>?_) ?_
  ·have:=this;rw[gH,ahp] at this;exact this
  ·have hk:=cS hy;rw[hl] at hk;have hw:ap k:=by unfold ap;omega
   have dW:xs[k]? =some y:=by
    rw[List.getElem?_take,if_pos hk] at hy;exact hy
   simp only[xS,b8 hk,cond_true,bX,dW,hx,Option.bind_some,bS hw];cases (y==x)<;>rfl
  ·simp only[xS,hl,dh,cond_false]
 have key:Gg ((xs,((0:Int),())),())=some (bif allI (fun i x=>!((xs.take i).contains x)) 0 xs then .inr ((),()) else .inl ((true,()),())):=by
  refine fZ zz xs (fun i=>((xs,((i:Int),())),())) _ _ _ (fun i x hx=>?_) ?_
  ·have hi:=cS hx;have hw:ap i:=by unfold ap;omega
   simp only[zz,b8 hi,cond_true,inner i x hx,Option.bind_some];cases (xs.take i).contains x
   ·simp only[Bool.not_false,cond_true,bS hw]
   ·rfl
  ·simp only[zz,dh,cond_false]
 rw[afk xs xs 0 rfl] at key;simp only[f142,key,Option.bind_some,List.take_zero];cases jA [] xs<;>rfl
def p2(name:F)(ns:List bB):Bool:=ns.all du&&decide (ns.length<=6)&&!jA [] (name::ns.map (·.name))
theorem abO(a)(hs:s_ a.1.2.1)(hn:cR a.1.1.length):f89 a=some ((p2 a.1.1 a.1.2.1,()),()):=by
 obtain⟨⟨name,ns,u⟩,b5⟩:=a;have hl:ns.length<=2097152:=hs.1;have key:Hl ((ns,((),((0:Int),()))),(([name]:List F),()))=some (((ns,((),())),((name::ns.map (·.name)),()))):=by
  have:=ac4 Ax ns (fun i (out:List F)=>((ns,((),((i:Int),()))),(out,()))) (fun(n:bB) out=>out++[n.name]) (fun out=>(((ns,((),())),(out,())):aD zY)) (fun i out=>out.length=i+1) [name] rfl (fun i x out hx dq=>?_) (fun out _=>?_)
  ·refine this.trans ?_
   have e:∀(r:List bB) (out:List F),r.foldl (fun s x=>s++[x.name]) out=out++r.map (·.name):=by
    intro r;induction r with
    |nil=>intro out;simp
    |cons n r ih=>intro out;simp[ih]
   rw[e];rfl
  ·have hi:=cS hx;have hw:ap i:=by unfold ap;omega
   refine⟨?_,by simp[dq]⟩
   simp only[Ax,b8 hi,cond_true,bX,hx,Option.bind_some];rw[d' (by decide) (by unfold ap;simp only[List.length_cons,List.length_nil];omega)]
   simp only[Option.bind_some,bS hw]
  ·simp only[Ax,dh,cond_false]
 simp only[f89,key,Option.bind_some];rw[abQ _ hs];simp only[Option.bind_some];unfold p2;cases ar:(List.all ns du&&decide (ns.length<=6)) with
 |false=>rfl
 |true=>
  simp only[Bool.and_eq_true,decide_eq_true_eq] at ar;have asz:=abP ((name::ns.map (·.name),()),()) (show(name::ns.map (·.name)).length<=2097152 by simp only[List.length_cons,List.length_map];omega)
  simp only[cond_true,Bool.true_and,asz,Option.bind_some]
theorem afL(a)(hs:cR a.1.1.length):∃n:Int,f197 a=some ((n,()),())/\decide (n>=0)=a.1.1.contains a.1.2.1:=by
 obtain⟨⟨xs,x,u⟩,b5⟩:=a;have hs:xs.length<=2097152:=hs;have key:F9 ((xs,(x,((xs.length:Int),((0:Int),())))),())=_:=DN zo xs (fun i (_:Unit)=>((xs,(x,((xs.length:Int),((i:Int),())))),()))
  (fun i y _=>some (bif x==y then .inr ((.inl (((i:Int),()),())):aD rU) else .inl ())) (fun _=>.inr ((),())) (fun i y s hy=>?_) (fun s=>?_) ()
 ·have fold:∀(r:List F) (k:Nat),∃n:Int,(eK (fun i y (_:Unit)=>some (bif x==y then .inr ((.inl (((i:Int),()),())):aD rU) else .inl ())) (fun _=>(.inr ((),()):aD rU)) k r ()).bind (fun alw=>
    (match alw with
    |.inl alv=>some ((alv.1.1,()),())
    |.inr atP=>some ((((-1):Int),()),()):Option Ij.J))=some ((n,()),())/\decide (n>=0)=r.contains x:=by
   intro r;induction r with
   |nil=>intro k;exact⟨-1,rfl,rfl⟩
   |cons y r ih=>
    intro k;simp only[eK,List.contains_cons];cases hxy:x==y with
    |true=>exact⟨k,rfl,by simp⟩
    |false=>
     obtain⟨n,h1,h2⟩:=ih (k+1);exact⟨n,h1,by simpa using h2⟩
  obtain⟨n,h1,h2⟩:=fold xs 0;refine⟨n,?_,h2⟩;simp only[f197];rw[key];exact h1
 ·have hi:=cS hy;have hw:ap i:=by unfold ap;omega
  simp only[zo,b8 hi,cond_true,bX,hy,Option.bind_some,bS hw];cases x==y<;>rfl
 ·simp only[zo,dh,cond_false]
theorem aaM(a)(hs:cR a.1.1.length):f150 a=some ((a.1.1.contains a.1.2.1,()),()):=by
 obtain⟨n,h1,h2⟩:=afL ((a.1.1,(a.1.2.1,())),()) hs;simp only[f150,h1,Option.bind_some,h2]
theorem ad1(a)(hs:cR a.1.1.length):f149 a=some (((),()),(a.1.1,())):=by
 obtain⟨⟨xs,u⟩,b5⟩:=a;have hs:xs.length<=2097152:=hs;have h2:(cy 16 ([]:List F) xs).bind (fun x=>some (((),()),(x,())))=(some (((),()),(xs,())):Option Il.J):=by
  rw[d' (by decide) (by unfold ap;simp only[List.length_nil];omega)];rfl
 simp only[f149];rw[h2];unfold pK;split
 ·rfl
 ·rename_i h;exact absurd (fun he:xs=[]=>by subst he;rfl) h
theorem Z7(a)(hs:s_ a.1.1)(hm:a.1.2.2.1.length<=1):AK a=some ((jA a.1.2.2.1 (a.1.1.map (·.name)),()),()):=by
 obtain⟨⟨ns,auB,more,u⟩,b5⟩:=a;have hl:ns.length<=2097152:=hs.1;have hm:more.length<=1:=hm;have hc:=ad1 ((more,()),()) (show more.length<=2097152 by omega)
 have key:(DW (((),((),(ns,((ns.length:Int),((0:Int),()))))),(more,())))=_:=lF xW ns (fun i (out:List F)=>(((),((),(ns,((ns.length:Int),((i:Int),()))))),(out,())))
  (fun i (n:bB) out=>some (bif out.contains n.name then .inr ((.inl ((true,()),())):aD rG) else .inl (out++[n.name]))) (fun _=>.inr ((),())) (fun i out=>out.length<=i+1) more (by omega) (fun i x out hx dq=>?_) (fun out _=>?_)
 ·have fold:∀(r:List bB) (k:Nat) (out:List F),(eK (fun i (n:bB) out=>some (bif out.contains n.name then .inr ((.inl ((true,()),())):aD rG) else .inl (out++[n.name]))) (fun _=>(.inr ((),()):aD rG)) k r out)=
    some (bif jA out (r.map (·.name)) then .inl ((true,()),()) else .inr ((),())):=by
   intro r;induction r with
   |nil=>intro k out;rfl
   |cons n r ih=>
    intro k out;simp only[eK,List.map_cons,jA];cases out.contains n.name with
    |true=>rfl
    |false=>simp only[cond_false,Bool.false_or];exact ih _ _
  rw[fold] at key;simp only[AK,hc,Option.bind_some,key];cases jA more (ns.map (·.name))<;>rfl
 ·have hi:=cS hx;have hw:ap i:=by unfold ap;omega
  refine⟨?_,fun aC af=>?_⟩
  ·simp only[xW,b8 hi,cond_true,bX,hx,Option.bind_some,f104];rw[aaM _ (show cR out.length by show out.length<=2097152;omega)]
   simp only[Option.bind_some];cases ar:out.contains x.name with
   |true=>rfl
   |false=>
    simp only[cond_false];rw[d' (by decide) (by unfold ap;simp only[List.length_cons,List.length_nil];omega)]
    simp only[Option.bind_some,bS hw,Option.map_some]
  ·simp only[Option.some.injEq] at af;cases ar:out.contains x.name with
   |true=>rw[ar] at af;cases af
   |false=>
    rw[ar] at af;simp only[cond_false,Sum.inl.injEq] at af;subst af;simp only[List.length_append,List.length_cons,List.length_nil];omega
 ·simp only[xW,dh,cond_false]
abbrev i146:Shape:=⟨[(0,.ak (.d (.int .u8)))],[],29⟩
abbrev TB:Shape:=⟨[au 2],[],29⟩
noncomputable def f146(a:i146.J):Option TB.J:=
 bif(decide (a.1.1>=(97:Int))) then
 bif(!(decide (a.1.1<=(122:Int)))) then
 bif(decide (a.1.1>=(48:Int))) then
 bif(!(decide (a.1.1<=(57:Int)))) then
 bif(!(a.1.1==(46:Int))) then
 bif(!(a.1.1==(95:Int))) then
 some (((a.1.1==(45:Int)),()),())
else
 some ((true,()),())
else
 some ((true,()),())
else
 some ((true,()),())
else
 bif(!(a.1.1==(46:Int))) then
 bif(!(a.1.1==(95:Int))) then
 some (((a.1.1==(45:Int)),()),())
else
 some ((true,()),())
else
 some ((true,()),())
else
 some ((true,()),())
else
 bif(decide (a.1.1>=(48:Int))) then
 bif(!(decide (a.1.1<=(57:Int)))) then
 bif(!(a.1.1==(46:Int))) then
 bif(!(a.1.1==(95:Int))) then
 some (((a.1.1==(45:Int)),()),())
else
 some ((true,()),())
else
 some ((true,()),())
else
 some ((true,()),())
else
 bif(!(a.1.1==(46:Int))) then
 bif(!(a.1.1==(95:Int))) then
 some (((a.1.1==(45:Int)),()),())
else
 some ((true,()),())
else
 some ((true,()),())
noncomputable def Vy:aH:=aP aj Tryz.f146 i146 TB [] f146
theorem z146:aG U 146 Vy:=aS g0 Tryz.func146 (by kernel_rfl) ag (fun y=>by kernel_rfl) fun a=>by kernel_rfl
noncomputable abbrev aro:bi:=[(75,oc),(146,Vy)]
theorem Yw:a_ U (bg aj aro):=bf ⟨z75,z146,⟨⟩⟩
abbrev z7:Shape:=⟨[ao 0,ae 3],[],26⟩
abbrev GZ:List aO:=[(.ret,⟨[au 2],[],26⟩),(.exit 0,⟨[ao 0],[],26⟩)]
noncomputable def Au(y:z7.J):bR z7 GZ:=
 bif(decide (y.1.2.1<(y.1.1.length:Int))) then
(aU y.1.1 y.1.2.1).bind fun a=>
(f146 (((a.toNat:Int),()),())).bind fun b=>
 bif(!b.1.1) then
 some (.inr (.inl ((false,()),())))
else
 some (.inl ((y.1.1,(IntKind.i64.wrap (y.1.2.1+(1:Int))),()),()))
else
 some (.inr (.inr ((y.1.1,()),())))
noncomputable def Hi:z7.J->Option (aD GZ):=bv Au
theorem ahY:aY U (an (codeOf Tryz.f91) 1 26) (a' z7 GZ Hi):=bT Yw (by kernel_rfl) ag fun y=>by kernel_rfl
abbrev i91:Shape:=⟨[ao 0],[],26⟩
abbrev WD:Shape:=⟨[au 2],[],26⟩
noncomputable def f91(a:i91.J):Option WD.J:=
(Hi ((a.1.1,(0:Int),()),())).bind fun b=>
(match b with
|.inl c=>
 some ((c.1.1,()),())
|.inr d=>
(f75 (((d.1.1.length:Int),(1:Int),(10:Int),()),())).bind fun e=>
 bif e.1.1 then
 bif(!(d.1.1==([46]:F))) then
 some (((!(d.1.1==([46,46]:F))),()),())
else
 some ((false,()),())
else
 some ((false,()),()))
noncomputable def X3:aH:=aP aj Tryz.f91 i91 WD [] f91
theorem z91:aG U 91 X3:=aS Yw Tryz.func91 (by kernel_rfl) (ba ahY ag) (fun y=>by kernel_rfl) fun a=>by kernel_rfl
noncomputable abbrev amP:bi:=[(73,tF),(91,X3)]
theorem V3:a_ U (bg aj amP):=bf ⟨vR,z91,⟨⟩⟩
abbrev yP:Shape:=⟨[bc 3 3000192,ae 4],[bb 3000192 .str 3 0],25⟩
abbrev Fx:List aO:=[(.ret,⟨[au 2],[],25⟩),(.exit 0,⟨[bc 3 3000192],[bb 3000192 .str 3 0],25⟩)]
noncomputable def zr(y:yP.J):bR yP Fx:=
 bif(decide (y.1.2.1<(y.2.1.length:Int))) then
(a8 y.2.1.length y.1.2.1).bind fun a=>
(y.2.1[a]?).bind fun b=>
(f91 ((b,()),())).bind fun c=>
 bif(!c.1.1) then
 some (.inr (.inl ((false,()),())))
else
 some (.inl (((),(IntKind.i64.wrap (y.1.2.1+(1:Int))),()),y.2.1,()))
else
 some (.inr (.inr (((),()),y.2.1,())))
noncomputable def Ga:yP.J->Option (aD Fx):=bv zr
theorem agi:aY U (an (codeOf Tryz.f193) 1 58) (a' yP Fx Ga):=bT V3 (by kernel_rfl) ag fun y=>by kernel_rfl
abbrev i193:Shape:=⟨[ao 0],[],25⟩
abbrev S':Shape:=⟨[au 2],[],25⟩
noncomputable def f193(a:i193.J):Option S'.J:=
(f73 ((a.1.1,(47:Int),(IntKind.i64.wrap ((a.1.1.length:Int)+(1:Int))),()),())).bind fun b=>
(Ga (((),(0:Int),()),b.2.1,())).bind fun c=>
(match c with
|.inl d=>
 some ((d.1.1,()),())
|.inr e=>
 some (((decide ((e.2.1.length:Int)<=(5:Int))),()),()))
noncomputable def U9:aH:=aP aj Tryz.f193 i193 S' [] f193
theorem z193:aG U 193 U9:=aS V3 Tryz.func193 (by kernel_rfl) (ba agi ag) (fun y=>by kernel_rfl) fun a=>by kernel_rfl
noncomputable abbrev arn:bi:=[(75,oc)]
theorem KO:a_ U (bg aj arn):=bf ⟨z75,⟨⟩⟩
abbrev Px:Shape:=⟨[ao 0,ae 3],[],25⟩
abbrev Pe:List aO:=[(.norm,⟨[ao 0,ae 3,au 21],[],25⟩)]
noncomputable def Gx(y:Px.J):Option (aD Pe):=
(aU y.1.1 y.1.2.1).bind fun a=>
 bif((a.toNat:Int) !=(10:Int)) then
(aU y.1.1 y.1.2.1).bind fun b=>
(f75 (((IntKind.i64.wrap (b.toNat:Int)),(32:Int),(126:Int),()),())).bind fun c=>
 some ((y.1.1,y.1.2.1,(!c.1.1),()),())
else
 some ((y.1.1,y.1.2.1,false,()),())
theorem afT:aY U (an (da (an (codeOf Tryz.f92) 1 26)) 52 840) (a' Px Pe Gx):=cW KO (by kernel_rfl) ag fun y=>by kernel_rfl
abbrev z6:Shape:=⟨[ao 0,ae 3],[],25⟩
abbrev GY:List aO:=[(.ret,⟨[au 2],[],25⟩),(.exit 0,⟨[ao 0],[],25⟩)]
noncomputable def At(y:z6.J):bR z6 GY:=
 bif(decide (y.1.2.1<(y.1.1.length:Int))) then
(Gx ((y.1.1,y.1.2.1,()),())).bind fun a=>
 bif a.1.2.2.1 then
 some (.inr (.inl ((false,()),())))
else
 some (.inl ((a.1.1,(IntKind.i64.wrap (a.1.2.1+(1:Int))),()),()))
else
 some (.inr (.inr ((y.1.1,()),())))
noncomputable def Hh:z6.J->Option (aD GY):=bv At
theorem ahX:aY U (an (codeOf Tryz.f92) 1 26) (a' z6 GY Hh):=bT KO (by kernel_rfl) (ba afT ag) fun y=>by kernel_rfl
abbrev i92:Shape:=⟨[ao 0],[],25⟩
abbrev WC:Shape:=⟨[au 2],[],25⟩
noncomputable def f92(a:i92.J):Option WC.J:=
(Hh ((a.1.1,(0:Int),()),())).bind fun b=>
(match b with
|.inl c=>
 some ((c.1.1,()),())
|.inr d=>
 some (((decide ((d.1.1.length:Int)<=(80:Int))),()),()))
noncomputable def X2:aH:=aP aj Tryz.f92 i92 WC [] f92
theorem aof:aG U 92 X2:=aS KO Tryz.func92 (by kernel_rfl) (ba ahX ag) (fun y=>by kernel_rfl) fun a=>by kernel_rfl
noncomputable abbrev ane:bi:=[(75,oc),(92,X2),(193,U9)]
theorem an4:a_ U (bg aj ane):=bf ⟨z75,aof,z193,⟨⟩⟩
abbrev i143:Shape:=⟨[cC 0 [ai,bq,bq,ai]],[],42⟩
abbrev TE:Shape:=⟨[au 2],[],42⟩
noncomputable def f143(a:i143.J):Option TE.J:=
(f193 ((a.1.1.1,()),())).bind fun b=>
 bif(!b.1.1) then
 some ((false,()),())
else
 bif(a.1.1.2.1==(1:Int)) then
(f75 ((a.1.1.2.2.1,(0:Int),(7:Int),()),())).bind fun c=>
 bif c.1.1 then
 some (((a.1.1.2.2.2.1==([]:F)),()),())
else
 some ((false,()),())
else
 bif(a.1.1.2.1==(2:Int)) then
(f75 ((a.1.1.2.2.1,(0:Int),(7:Int),()),())).bind fun d=>
 bif d.1.1 then
(f92 ((a.1.1.2.2.2.1,()),())).bind fun e=>
 some ((e.1.1,()),())
else
 some ((false,()),())
else
 bif(a.1.1.2.1==(3:Int)) then
 bif(a.1.1.2.2.1==(0:Int)) then
(f193 ((a.1.1.2.2.2.1,()),())).bind fun f=>
 some ((f.1.1,()),())
else
 some ((false,()),())
else
 some ((false,()),())
noncomputable def VB:aH:=aP aj Tryz.f143 i143 TE [] f143
theorem z143:aG U 143 VB:=aS an4 Tryz.func143 (by kernel_rfl) ag (fun y=>by kernel_rfl) fun a=>by kernel_rfl
abbrev i231:Shape:=⟨[(0,.ak (.d (.int .u8)))],[],29⟩
abbrev SO:Shape:=⟨[au 2],[],29⟩
noncomputable def f231(a:i231.J):Option SO.J:=
 bif(decide (a.1.1>=(97:Int))) then
 bif(!(decide (a.1.1<=(122:Int)))) then
 bif(decide (a.1.1>=(48:Int))) then
 bif(!(decide (a.1.1<=(57:Int)))) then
 bif(!(a.1.1==(46:Int))) then
 bif(!(a.1.1==(95:Int))) then
 some (((a.1.1==(45:Int)),()),())
else
 some ((true,()),())
else
 some ((true,()),())
else
 some ((true,()),())
else
 bif(!(a.1.1==(46:Int))) then
 bif(!(a.1.1==(95:Int))) then
 some (((a.1.1==(45:Int)),()),())
else
 some ((true,()),())
else
 some ((true,()),())
else
 some ((true,()),())
else
 bif(decide (a.1.1>=(48:Int))) then
 bif(!(decide (a.1.1<=(57:Int)))) then
 bif(!(a.1.1==(46:Int))) then
 bif(!(a.1.1==(95:Int))) then
 some (((a.1.1==(45:Int)),()),())
else
 some ((true,()),())
else
 some ((true,()),())
else
 some ((true,()),())
else
 bif(!(a.1.1==(46:Int))) then
 bif(!(a.1.1==(95:Int))) then
 some (((a.1.1==(45:Int)),()),())
else
 some ((true,()),())
else
 some ((true,()),())
noncomputable def US:aH:=aP aj Tryz.f231 i231 SO [] f231
theorem akq:aG U 231 US:=aS g0 Tryz.func231 (by kernel_rfl) ag (fun y=>by kernel_rfl) fun a=>by kernel_rfl
noncomputable abbrev amO:bi:=[(231,US)]
theorem V2:a_ U (bg aj amO):=bf ⟨akq,⟨⟩⟩
abbrev yN:Shape:=⟨[ao 0,ae 5,ae 6],[],17⟩
abbrev Fw:List aO:=[(.ret,⟨[au 2],[],17⟩),(.exit 0,⟨[ao 0],[],17⟩)]
noncomputable def zp(y:yN.J):bR yN Fw:=
 bif(decide (y.1.2.2.1<y.1.2.1)) then
(aU y.1.1 y.1.2.2.1).bind fun a=>
(f231 (((a.toNat:Int),()),())).bind fun b=>
 bif(!b.1.1) then
 some (.inr (.inl ((false,()),())))
else
 some (.inl ((y.1.1,y.1.2.1,(IntKind.i64.wrap (y.1.2.2.1+(1:Int))),()),()))
else
 some (.inr (.inr ((y.1.1,()),())))
noncomputable def F_:yN.J->Option (aD Fw):=bv zp
theorem agf:aY U (an (codeOf Tryz.f195) 1 26) (a' yN Fw F_):=bT V2 (by kernel_rfl) ag fun y=>by kernel_rfl
abbrev i195:Shape:=⟨[ao 0],[],17⟩
abbrev S9:Shape:=⟨[au 2],[],17⟩
noncomputable def f195(a:i195.J):Option S9.J:=
(F_ ((a.1.1,(a.1.1.length:Int),(0:Int),()),())).bind fun b=>
(match b with
|.inl c=>
 some ((c.1.1,()),())
|.inr d=>
 some (((!(d.1.1==([]:F))),()),()))
noncomputable def U8:aH:=aP aj Tryz.f195 i195 S9 [] f195
theorem akB:aG U 195 U8:=aS V2 Tryz.func195 (by kernel_rfl) (ba agf ag) (fun y=>by kernel_rfl) fun a=>by kernel_rfl
noncomputable abbrev anb:bi:=[(195,U8)]
theorem an2:a_ U (bg aj anb):=bf ⟨akB,⟨⟩⟩
abbrev i147:Shape:=⟨[ao 0],[],18⟩
abbrev TA:Shape:=⟨[au 2],[],18⟩
noncomputable def f147(a:i147.J):Option TA.J:=
 bif(decide ((a.1.1.length:Int)<=(10:Int))) then
 bif(!(a.1.1==([46]:F))) then
 bif(!(a.1.1==([46,46]:F))) then
(f195 ((a.1.1,()),())).bind fun b=>
 some ((b.1.1,()),())
else
 some ((false,()),())
else
 some ((false,()),())
else
 some ((false,()),())
noncomputable def Vx:aH:=aP aj Tryz.f147 i147 TA [] f147
theorem akT:aG U 147 Vx:=aS an2 Tryz.func147 (by kernel_rfl) ag (fun y=>by kernel_rfl) fun a=>by kernel_rfl
abbrev i196:Shape:=⟨[(0,.ak (.d (.int .u8)))],[],9⟩
abbrev S8:Shape:=⟨[au 2],[],9⟩
noncomputable def f196(a:i196.J):Option S8.J:=
 bif(decide (a.1.1>=(32:Int))) then
 some (((decide (a.1.1<=(126:Int))),()),())
else
 some ((false,()),())
noncomputable def U7:aH:=aP aj Tryz.f196 i196 S8 [] f196
theorem z196:aG U 196 U7:=aS g0 Tryz.func196 (by kernel_rfl) ag (fun y=>by kernel_rfl) fun a=>by kernel_rfl
noncomputable abbrev ana:bi:=[(196,U7)]
theorem Jg:a_ U (bg aj ana):=bf ⟨z196,⟨⟩⟩
abbrev Nz:Shape:=⟨[ao 0,ae 3,ae 8,ae 9],[],24⟩
abbrev Ng:List aO:=[(.norm,⟨[ao 0,ae 8,ae 9,au 22],[],24⟩)]
noncomputable def D4(y:Nz.J):Option (aD Ng):=
(aU y.1.1 y.1.2.1).bind fun a=>
(f196 (((a.toNat:Int),()),())).bind fun b=>
 bif(!b.1.1) then
(aU y.1.1 y.1.2.1).bind fun c=>
 some ((y.1.1,y.1.2.2.1,y.1.2.2.2.1,((c.toNat:Int) !=(10:Int)),()),())
else
 some ((y.1.1,y.1.2.2.1,y.1.2.2.2.1,false,()),())
theorem acG:aY U (an (da (an (codeOf Tryz.f148) 1 58)) 116 7474) (a' Nz Ng D4):=cW Jg (by kernel_rfl) ag fun y=>by kernel_rfl
abbrev yV:Shape:=⟨[ao 0,ae 8,ae 9],[],24⟩
abbrev FD:List aO:=[(.ret,⟨[au 2],[],24⟩),(.exit 0,⟨[],[],24⟩)]
noncomputable def zy(y:yV.J):bR yV FD:=
 bif(decide (y.1.2.2.1<y.1.2.1)) then
(D4 ((y.1.1,y.1.2.2.1,y.1.2.1,y.1.2.2.1,()),())).bind fun a=>
 bif a.1.2.2.2.1 then
 some (.inr (.inl ((false,()),())))
else
 some (.inl ((a.1.1,a.1.2.1,(IntKind.i64.wrap (a.1.2.2.1+(1:Int))),()),()))
else
 some (.inr (.inr ((),())))
noncomputable def Ge:yV.J->Option (aD FD):=bv zy
theorem agv:aY U (an (codeOf Tryz.f148) 1 58) (a' yV FD Ge):=bT Jg (by kernel_rfl) (ba acG ag) fun y=>by kernel_rfl
abbrev i148:Shape:=⟨[ao 0],[],24⟩
abbrev Tz:Shape:=⟨[au 2],[],24⟩
noncomputable def f148(a:i148.J):Option Tz.J:=
 bif(decide ((a.1.1.length:Int)>(80:Int))) then
 some ((false,()),())
else
(Ge ((a.1.1,(a.1.1.length:Int),(0:Int),()),())).bind fun b=>
(match b with
|.inl c=>
 some ((c.1.1,()),())
|.inr d=>
 some ((true,()),()))
noncomputable def Vw:aH:=aP aj Tryz.f148 i148 Tz [] f148
theorem z148:aG U 148 Vw:=aS Jg Tryz.func148 (by kernel_rfl) (ba agv ag) (fun y=>by kernel_rfl) fun a=>by kernel_rfl
noncomputable abbrev amN:bi:=[(147,Vx)]
theorem Jc:a_ U (bg aj amN):=bf ⟨akT,⟨⟩⟩
abbrev OG:Shape:=⟨[aM 2 2 0,aM 3 3 0,ao 4],[aL 2 [ly],aL 3 [bq]],17⟩
abbrev Oq:List aO:=[(.norm,⟨[aM 2 2 0,aM 3 3 0,au 16],[aL 2 [ly],aL 3 [bq]],17⟩)]
noncomputable def E6(y:OG.J):Option (aD Oq):=
 bif(!(decide (y.2.2.1.1>(5:Int)))) then
(f147 ((y.1.2.2.1,()),())).bind fun a=>
 some (((),(),(!a.1.1),()),(y.2.1.1,()),(y.2.2.1.1,()),())
else
 some (((),(),true,()),(y.2.1.1,()),(y.2.2.1.1,()),())
theorem aeA:aY U (an (jS (an (codeOf Tryz.f199) 1 58)) 117 938) (a' OG Oq E6):=cW Jc (by kernel_rfl) ag fun y=>by kernel_rfl
abbrev yL:Shape:=⟨[aM 2 2 0,aM 3 3 0],[aL 2 [ly],aL 3 [bq]],17⟩
abbrev Fv:List aO:=[(.norm,⟨[aM 2 2 0],[aL 2 [ly]],17⟩),(.ret,⟨[aM 2 2 0],[aL 2 [ly]],17⟩)]
noncomputable def r'(x:F)(y:yL.J):bR yL Fv:=
(E6 (((),(),x,()),(y.2.1.1,()),((IntKind.i64.wrap (y.2.2.1.1+(1:Int))),()),())).bind fun a=>
 bif a.1.2.2.1 then
 some (.inr (.inr (((),()),(false,()),())))
else
 some (.inl (((),(),()),(a.2.1.1,()),(a.2.2.1.1,()),()))
noncomputable def uG(y:yL.J):Option (aD Fv):=
 some (.inl (((),()),(y.2.1.1,()),()))
theorem agd:aY U (an (codeOf Tryz.f199) 1 58) (rO 266 6 yL Fv r' uG):=Mn (eN:=7) Jc RT (by kernel_rfl) (ba aeA ag) (by kernel_rfl) (fun x y=>by kernel_rfl) fun y=>by kernel_rfl
abbrev i199:Shape:=⟨[ao 0],[],17⟩
abbrev S7:Shape:=⟨[aM 2 2 0],[aL 2 [ly]],17⟩
noncomputable def f199(a:i199.J):Option S7.J:=
(bif Nat.ble a.1.1.length kk then ij r' uG (bJ (47:UInt8) a.1.1) (((),(),()),(false,()),((0:Int),()),()) else none).bind fun b=>
(match b with
|.inl c=>
 some (((),()),(true,()),())
|.inr d=>
 some (((),()),(d.2.1.1,()),()))
noncomputable def I2:aH:=aP aj Tryz.f199 i199 S7 [] f199
theorem Sh:aG U 199 I2:=aS Jc Tryz.func199 (by kernel_rfl) (ba agd ag) (fun y=>by kernel_rfl) fun a=>by kernel_rfl
noncomputable abbrev am7:bi:=[(148,Vw),(199,I2)]
theorem V8:a_ U (bg aj am7):=bf ⟨z148,Sh,⟨⟩⟩
abbrev PL:Shape:=⟨[aM 1 1 0],[aL 1 [ai,bq,bq,ai]],39⟩
abbrev Pt:List aO:=[(.norm,⟨[aM 1 1 0,au 16],[aL 1 [ai,bq,bq,ai]],39⟩)]
noncomputable def GJ(y:PL.J):Option (aD Pt):=
(f199 ((y.2.1.1,()),())).bind fun a=>
 bif(!(!a.2.1.1)) then
 bif(!(decide (y.2.1.2.2.1<(0:Int)))) then
 some (((),(decide (y.2.1.2.2.1>(7:Int))),()),(y.2.1.1,y.2.1.2.1,y.2.1.2.2.1,y.2.1.2.2.2.1,()),())
else
 some (((),true,()),(y.2.1.1,y.2.1.2.1,y.2.1.2.2.1,y.2.1.2.2.2.1,()),())
else
 some (((),true,()),(y.2.1.1,y.2.1.2.1,y.2.1.2.2.1,y.2.1.2.2.2.1,()),())
theorem agt:aY U (an (codeOf Tryz.f152) 1 12) (a' PL Pt GJ):=cW V8 (by kernel_rfl) ag fun y=>by kernel_rfl
abbrev i152:Shape:=⟨[cC 0 [ai,bq,bq,ai]],[],39⟩
abbrev Tw:Shape:=⟨[au 2],[],39⟩
noncomputable def f152(a:i152.J):Option Tw.J:=
(GJ (((),()),(a.1.1.1,a.1.1.2.1,a.1.1.2.2.1,a.1.1.2.2.2.1,()),())).bind fun b=>
 bif b.1.2.1 then
 some ((false,()),())
else
 bif(b.2.1.2.1==(1:Int)) then
 some (((b.2.1.2.2.2.1==([]:F)),()),())
else
 bif(b.2.1.2.1==(2:Int)) then
(f148 ((b.2.1.2.2.2.1,()),())).bind fun c=>
 some ((c.1.1,()),())
else
 bif(b.2.1.2.1==(3:Int)) then
 bif(b.2.1.2.2.1==(0:Int)) then
(f199 ((b.2.1.2.2.2.1,()),())).bind fun d=>
 some ((d.2.1.1,()),())
else
 some ((false,()),())
else
 some ((false,()),())
noncomputable def Vt:aH:=aP aj Tryz.f152 i152 Tw [] f152
theorem z152:aG U 152 Vt:=aS V8 Tryz.func152 (by kernel_rfl) (ba agt ag) (fun y=>by kernel_rfl) fun a=>by kernel_rfl
def jR(n:Int):Bool:=(decide (97<=n)&&decide (n<=122))||(decide (48<=n)&&decide (n<=57))||n==46||n==95||n==45
theorem abV(a):f146 a=some ((jR a.1.1,()),()):=by
 obtain⟨⟨n,u⟩,b5⟩:=a;simp only[f146,jR,ge_iff_le];generalize decide ((97:Int)<=n)=b1;generalize decide (n<=(122:Int))=b2;generalize decide ((48:Int)<=n)=b3;generalize decide (n<=(57:Int))=rf;generalize(n==(46:Int))=w1;generalize(n==(95:Int))=Ll;generalize(n==(45:Int))=Lk;cases b1<;>cases b2<;>cases b3<;>cases rf<;>cases w1<;>cases Ll<;>cases Lk<;>rfl
theorem aaB(a):f231 a=some ((jR a.1.1,()),()):=by
 obtain⟨⟨n,u⟩,b5⟩:=a;simp only[f231,jR,ge_iff_le];generalize decide ((97:Int)<=n)=b1;generalize decide (n<=(122:Int))=b2;generalize decide ((48:Int)<=n)=b3;generalize decide (n<=(57:Int))=rf;generalize(n==(46:Int))=w1;generalize(n==(95:Int))=Ll;generalize(n==(45:Int))=Lk;cases b1<;>cases b2<;>cases b3<;>cases rf<;>cases w1<;>cases Ll<;>cases Lk<;>rfl
def jX(s:F):Bool:=s.all (fun b=>jR b.toNat)&&within s.length 1 10&&!(s==[46])&&!(s==[46,46])
theorem adR(a)(hs:cR a.1.1.length):f91 a=some ((jX a.1.1,()),()):=by
 obtain⟨⟨s,u⟩,b5⟩:=a;have hs:s.length<=2097152:=hs;have key:Hi ((s,((0:Int),())),())=some (bif allI (fun _ b=>jR b.toNat) 0 s then .inr ((s,()),()) else .inl ((false,()),())):=by
  refine fZ Au s (fun i=>((s,((i:Int),())),())) _ _ _ (fun i x hx=>?_) ?_
  ·have hi:=cS hx;have hw:ap i:=by unfold ap;omega
   simp only[Au,b8 hi,cond_true,bX,hx,Option.bind_some,abV,bS hw];cases jR x.toNat<;>rfl
  ·simp only[Au,dh,cond_false]
 rw[gH] at key;simp only[f91,key,Option.bind_some,jX];cases List.all s (fun b=>jR b.toNat) with
 |false=>rfl
 |true=>
  simp only[cond_true,nB,Option.bind_some,Bool.true_and];cases within (s.length:Int) 1 10<;>cases (s==[46])<;>rfl
theorem adJ(a)(hs:cR a.1.1.length):f147 a=some ((jX a.1.1,()),()):=by
 obtain⟨⟨s,u⟩,b5⟩:=a;have hs:s.length<=2097152:=hs;have key:F_ ((s,((s.length:Int),((0:Int),()))),())=some (bif allI (fun _ b=>jR b.toNat) 0 s then .inr ((s,()),()) else .inl ((false,()),())):=by
  refine fZ zp s (fun i=>((s,((s.length:Int),((i:Int),()))),())) _ _ _ (fun i x hx=>?_) ?_
  ·have hi:=cS hx;have hw:ap i:=by unfold ap;omega
   simp only[zp,b8 hi,cond_true,bX,hx,Option.bind_some,aaB,bS hw];cases jR x.toNat<;>rfl
  ·simp only[zp,dh,cond_false]
 rw[gH] at key;have wk:f195 ((s,()),())=some ((List.all s (fun b=>jR b.toNat)&&!(s==([]:F)),()),()):=by
  simp only[f195,key,Option.bind_some];cases List.all s (fun b=>jR b.toNat)<;>rfl
 have h1:decide ((1:Int)<=(s.length:Int))=!(s==([]:F)):=by
  cases s with
  |nil=>rfl
  |cons b r=>
   have:((b::r)==([]:F))=false:=rfl;simp only[List.length_cons];rw[this];simp only[Bool.not_false,decide_eq_true_eq];omega
 simp only[f147,wk,Option.bind_some,jX,within,h1];cases decide ((s.length:Int)<=10)<;>cases (s==[46])<;>cases (s==[46,46])<;>cases List.all s (fun b=>jR b.toNat)<;>cases (s==([]:F))<;>rfl
def f_(s:F):Bool:=(bJ 47 s).all jX&&decide ((bJ 47 s).length<=5)
theorem Od(a)(hs:cR a.1.1.length):f193 a=some ((f_ a.1.1,()),()):=by
 obtain⟨⟨s,u⟩,b5⟩:=a;have hs:s.length<=2097152:=hs;have hlen:=ry 47 s;have fF:f73 ((s,((47:Int),((IntKind.i64.wrap ((s.length:Int)+(1:Int))),()))),())=some (((),()),(bJ 47 s,())):=
  Pa 47 _ hs rfl (bS (by unfold ap;omega))
 have key:Ga (((),((0:Int),())),(bJ 47 s,()))=some (bif allI (fun _ x=>jX x) 0 (bJ 47 s) then .inr (((),()),(bJ 47 s,())) else .inl ((false,()),())):=by
  refine fZ zr (bJ 47 s) (fun i=>(((),((i:Int),())),(bJ 47 s,()))) _ _ _ (fun i x hx=>?_) ?_
  ·have hi:=cS hx;have hw:ap i:=by unfold ap;omega
   have hxl:x.length<=s.length:=xi 47 s x (List.mem_of_getElem? hx);simp only[zr,b8 hi,cond_true,fq hi,hx,Option.bind_some];rw[adR _ (show x.length<=2097152 by omega)]
   simp only[Option.bind_some,bS hw];cases jX x<;>rfl
  ·simp only[zr,dh,cond_false]
 rw[gH] at key;simp only[f193,fF,Option.bind_some,key,f_];cases List.all (bJ 47 s) jX with
 |false=>rfl
 |true=>have:=Bo (bJ 47 s).length 5;simp only[cond_true,Bool.true_and];rw[<-this];rfl
theorem Ee(a)(hs:cR a.1.1.length):f199 a=some (((),()),((f_ a.1.1,()),())):=by
 obtain⟨⟨s,u⟩,b5⟩:=a;have hs:s.length<=2097152:=hs;have IJ:Nat.ble s.length kk=true:=Nat.ble_eq_true_of_le (by unfold kk;omega)
 have fold:∀(r:List F) (k:Nat),(∀x,x∈r->x.length<=s.length)->k<=5->
   ij r' uG r (((),((),())),((false,()),(((k:Int),()),())))=
    some (bif r.all jX&&decide (k+r.length<=5) then(.inl (((),()),((false,()),()))) else(.inr (((),()),((false,()),())))):=by
  intro r;induction r with
  |nil=>
   intro k _ hk;have:decide (k+0<=5)=true:=by simpa using hk
   simp only[ij,uG,List.all_nil,List.length_nil,this,Bool.and_self,cond_true]
  |cons x r ih=>
   intro k hr hk;have hx:=hr x List.mem_cons_self;have kC:=adJ ((x,()),()) (show x.length<=2097152 by omega)
   have hw:=bS (i:=k) (by unfold ap;omega)
   have wl:decide (((k+1:Nat):Int)>5)=!decide (k+1<=5):=by by_cases h:k+1<=5<;>simp only[h,decide_true,decide_false,Bool.not_true,Bool.not_false,decide_eq_true_eq,decide_eq_false_iff_not]<;>omega
   have step:r' x (((),((),())),((false,()),(((k:Int),()),())))=
     some (bif jX x&&decide (k+1<=5) then .inl (((),((),())),((false,()),((((k+1:Nat):Int),()),()))) else .inr (.inr (((),()),((false,()),())))):=by
    simp only[r',E6,hw,wl,Bool.not_not,kC,Option.bind_some];cases decide (k+1<=5) with
    |false=>cases jX x<;>rfl
    |true=>cases jX x<;>rfl
   rw[ij,step,List.all_cons];cases hn:jX x with
   |false=>rfl
   |true=>
    simp only[Bool.true_and];cases ar:decide (k+1<=5) with
    |false=>
     have:decide (k+(x::r).length<=5)=false:=by simp only[decide_eq_false_iff_not,List.length_cons] at ar ⊢;omega
     rw[this];simp
    |true=>
     simp only[cond_true];rw[ih (k+1) (fun y hy=>hr y (List.mem_cons_of_mem _ hy)) (by simpa using ar)]
     have e1:k+1+r.length=k+(x::r).length:=by simp only[List.length_cons];omega
     rw[e1]
 have key:=fold (bJ (47:UInt8) s) 0 (fun x hx=>xi 47 s x hx) (Nat.zero_le _)
 have It:ij r' uG (bJ (47:UInt8) s) (((),((),())),((false,()),(((0:Int),()),())))=some (bif f_ s then(.inl (((),()),((false,()),()))) else(.inr (((),()),((false,()),())))):=by
  refine key.trans ?_
  unfold f_;rw[Nat.zero_add]
 simp only[f199,IJ,cond_true,It,Option.bind_some];cases f_ s<;>rfl
def nC(s:F):Bool:=s.all (fun b=>(b.toNat:Int)==10||within b.toNat 32 126)&&decide (s.length<=80)
theorem abD(b:UInt8):IntKind.i64.wrap (b.toNat:Int)=(b.toNat:Int):=by
 have:=b.toNat_lt;rw[eg (by omega) (by omega)]
theorem adO(a)(hs:cR a.1.1.length):f92 a=some ((nC a.1.1,()),()):=by
 obtain⟨⟨s,u⟩,b5⟩:=a;have hs:s.length<=2097152:=hs;have key:Hh ((s,((0:Int),())),())=some (bif allI (fun _ b=>(b.toNat:Int)==10||within b.toNat 32 126) 0 s then .inr ((s,()),()) else .inl ((false,()),())):=by
  refine fZ At s (fun i=>((s,((i:Int),())),())) _ _ _ (fun i x hx=>?_) ?_
  ·have hi:=cS hx;have hw:ap i:=by unfold ap;omega
   have hne:((x.toNat:Int) !=10)=!((x.toNat:Int)==10):=rfl;simp only[At,b8 hi,cond_true,Gx,bX,hx,Option.bind_some,hne,nB,abD];cases ((x.toNat:Int)==10)<;>cases within (x.toNat:Int) 32 126<;>simp only[Bool.not_true,Bool.not_false,cond_true,cond_false,Option.bind_some,bS hw,Bool.or_true,Bool.true_or,Bool.or_false]
  ·simp only[At,dh,cond_false]
 rw[gH] at key;simp only[f92,key,Option.bind_some,nC];cases List.all s (fun b=>(b.toNat:Int)==10||within b.toNat 32 126) with
 |false=>rfl
 |true=>have:=Bo s.length 80;simp only[cond_true,Bool.true_and];rw[<-this];rfl
theorem _E(a):f196 a=some ((within a.1.1 32 126,()),()):=by
 simp only[f196,within,ge_iff_le];cases decide ((32:Int)<=a.1.1)<;>rfl
theorem aaH(a)(hs:cR a.1.1.length):f148 a=some ((nC a.1.1,()),()):=by
 obtain⟨⟨s,u⟩,b5⟩:=a;have hs:s.length<=2097152:=hs;have key:Ge ((s,((s.length:Int),((0:Int),()))),())=some (bif allI (fun _ b=>(b.toNat:Int)==10||within b.toNat 32 126) 0 s then .inr ((),()) else .inl ((false,()),())):=by
  refine fZ zy s (fun i=>((s,((s.length:Int),((i:Int),()))),())) _ _ _ (fun i x hx=>?_) ?_
  ·have hi:=cS hx;have hw:ap i:=by unfold ap;omega
   have hne:((x.toNat:Int) !=10)=!((x.toNat:Int)==10):=rfl;simp only[zy,b8 hi,cond_true,D4,bX,hx,Option.bind_some,hne,_E];cases ((x.toNat:Int)==10)<;>cases within (x.toNat:Int) 32 126<;>simp only[Bool.not_true,Bool.not_false,cond_true,cond_false,Option.bind_some,bS hw,Bool.or_true,Bool.true_or,Bool.or_false]
  ·simp only[zy,dh,cond_false]
 rw[gH] at key;have aqC:decide ((s.length:Int)>80)=!decide (s.length<=80):=by by_cases h:s.length<=80<;>simp only[h,decide_true,decide_false,Bool.not_true,Bool.not_false,decide_eq_true_eq,decide_eq_false_iff_not]<;>omega
 simp only[f148,key,Option.bind_some,nC,aqC];cases decide (s.length<=80)<;>cases List.all s (fun b=>(b.toNat:Int)==10||within b.toNat 32 126)<;>rfl
def eL(e:az):Bool:=f_ e.path&&(bif e.kind==1 then within e.mode 0 7&&e.text==[] else bif e.kind==2 then within e.mode 0 7&&nC e.text else bif e.kind==3 then e.mode==0&&f_ e.text else false)
abbrev lr(e:az):Prop:=cR e.path.length/\cR e.text.length
theorem abT(a)(h1:cR a.1.1.1.length)(h2:cR a.1.1.2.2.2.1.length):f143 a=some ((eL ⟨a.1.1.1,a.1.1.2.1,a.1.1.2.2.1,a.1.1.2.2.2.1⟩,()),()):=by
 obtain⟨⟨⟨p,k,m,t,u⟩,b5⟩,j8⟩:=a;have e1:=Od ((p,()),()) h1;have e2:=Od ((t,()),()) h2;have bp:=adO ((t,()),()) h2;simp only[f143,e1,e2,bp,nB,Option.bind_some,eL];cases f_ p with
 |false=>rfl
 |true=>cases (k==1)<;>cases (k==2)<;>cases (k==3)<;>cases within m 0 7<;>cases (m==0)<;>rfl
theorem ab0(a)(h1:cR a.1.1.1.length)(h2:cR a.1.1.2.2.2.1.length):f152 a=some ((eL ⟨a.1.1.1,a.1.1.2.1,a.1.1.2.2.1,a.1.1.2.2.2.1⟩,()),()):=by
 obtain⟨⟨⟨p,k,m,t,u⟩,b5⟩,j8⟩:=a;have e1:=Ee ((p,()),()) h1;have e2:=Ee ((t,()),()) h2;have bp:=aaH ((t,()),()) h2;have hm:within m 0 7=true\/(m==0)=false:=by
  cases h:(m==0) with
  |false=>exact .inr rfl
  |true=>left;rw[show m=(0:Int) from eq_of_beq h];rfl
 simp only[f152,GJ,e1,e2,bp,Option.bind_some,eL,n_,mX,Bool.not_not];unfold within at hm ⊢;cases f_ p with
 |false=>rfl
 |true=>
  cases h0:decide ((0:Int)<=m)<;>cases iw:decide (m<=7)<;>rw[h0,iw] at hm<;>cases XT:(m==0)<;>rw[XT] at hm<;>
   first|(simp at hm;done)|(simp only[Bool.not_true,Bool.not_false,cond_true,cond_false,Option.bind_some,XT,e2,bp,Bool.and_true,Bool.and_false,Bool.true_and,Bool.false_and];cases (k==1)<;>cases (k==2)<;>cases (k==3)<;>rfl)
abbrev yO:Shape:=⟨[aK 0 .entry,ao 1,ae 4,au 5,ae 6],[],36⟩
abbrev rV:List aO:=[(.exit 0,⟨[aK 0 .entry,ao 1,ae 4,au 5,ae 6],[],36⟩)]
noncomputable def zq(y:yO.J):bR yO rV:=
 bif(decide (y.1.2.2.2.2.1<(y.1.1.length:Int))) then
(aU y.1.1 y.1.2.2.2.2.1).bind fun a=>
 bif(Op.bytesLess a.path y.1.2.1) then
 some (.inl ((y.1.1,y.1.2.1,y.1.2.2.1,y.1.2.2.2.1,(IntKind.i64.wrap (y.1.2.2.2.2.1+(1:Int))),()),()))
else
 some (.inr ((y.1.1,y.1.2.1,y.1.2.2.1,y.1.2.2.2.1,y.1.2.2.2.2.1,()),()))
else
 some (.inr ((y.1.1,y.1.2.1,y.1.2.2.1,y.1.2.2.2.1,y.1.2.2.2.2.1,()),()))
noncomputable def F':yO.J->Option (aD rV):=bv zq
theorem agh:aY U (an (codeOf Tryz.f194) 1 28) (a' yO rV F'):=bT g0 (by kernel_rfl) ag fun y=>by kernel_rfl
abbrev i194:Shape:=⟨[aK 0 .entry,ao 1],[],36⟩
abbrev S_:Shape:=⟨[ae 4,au 5],[],36⟩
noncomputable def f194(a:i194.J):Option S_.J:=
(F' ((a.1.1,a.1.2.1,(0:Int),false,(0:Int),()),())).bind fun b=>
 bif(decide (b.1.2.2.2.2.1<(b.1.1.length:Int))) then
(aU b.1.1 b.1.2.2.2.2.1).bind fun c=>
 some ((b.1.2.2.2.2.1,(c.path==b.1.2.1),()),())
else
 some ((b.1.2.2.2.2.1,false,()),())
noncomputable def I3:aH:=aP aj Tryz.f194 i194 S_ [] f194
theorem z194:aG U 194 I3:=aS g0 Tryz.func194 (by kernel_rfl) (ba agh ag) (fun y=>by kernel_rfl) fun a=>by kernel_rfl
noncomputable abbrev anc:bi:=[(194,I3)]
theorem an3:a_ U (bg aj anc):=bf ⟨z194,⟨⟩⟩
abbrev i144:Shape:=⟨[aK 0 .entry,ao 1],[],26⟩
abbrev TD:Shape:=⟨[au 4],[],26⟩
noncomputable def f144(a:i144.J):Option TD.J:=
(f194 ((a.1.1,a.1.2.1,()),())).bind fun b=>
 bif(!(a.1.2.1==([]:F))) then
 bif b.1.2.1 then
(aU a.1.1 b.1.1).bind fun c=>
 some (((c.kind==(1:Int)),()),())
else
 some ((false,()),())
else
 some ((true,()),())
noncomputable def VA:aH:=aP aj Tryz.f144 i144 TD [] f144
theorem akU:aG U 144 VA:=aS an3 Tryz.func144 (by kernel_rfl) ag (fun y=>by kernel_rfl) fun a=>by kernel_rfl
abbrev yW:Shape:=⟨[ao 0,ae 3],[],18⟩
abbrev FE:List aO:=[(.ret,⟨[ao 2],[],18⟩),(.exit 0,⟨[],[],18⟩)]
noncomputable def GK(y:yW.J):bR yW FE:=
 bif(decide (y.1.2.1>=(0:Int))) then
(aU y.1.1 y.1.2.1).bind fun a=>
 bif((a.toNat:Int)==(47:Int)) then
(br y.1.1 (0:Int) y.1.2.1).bind fun b=>
 some (.inr (.inl ((b,()),())))
else
 some (.inl ((y.1.1,(IntKind.i64.wrap (y.1.2.1-(1:Int))),()),()))
else
 some (.inr (.inr ((),())))
noncomputable def Gf:yW.J->Option (aD FE):=bv GK
theorem agw:aY U (an (codeOf Tryz.f145) 1 26) (a' yW FE Gf):=bT g0 (by kernel_rfl) ag fun y=>by kernel_rfl
abbrev i145:Shape:=⟨[ao 0],[],18⟩
abbrev TC:Shape:=⟨[ao 2],[],18⟩
noncomputable def f145(a:i145.J):Option TC.J:=
(Gf ((a.1.1,(IntKind.i64.wrap ((a.1.1.length:Int)-(1:Int))),()),())).bind fun b=>
(match b with
|.inl c=>
 some ((c.1.1,()),())
|.inr d=>
 some ((([]:F),()),()))
noncomputable def Vz:aH:=aP aj Tryz.f145 i145 TC [] f145
theorem z145:aG U 145 Vz:=aS g0 Tryz.func145 (by kernel_rfl) (ba agw ag) (fun y=>by kernel_rfl) fun a=>by kernel_rfl
abbrev yH:Shape:=⟨[ao 0,(1,.ak (.d (.int .u8))),ae 5],[],19⟩
abbrev Fq:List aO:=[(.ret,⟨[ae 4],[],19⟩),(.exit 0,⟨[],[],19⟩)]
noncomputable def GD(y:yH.J):bR yH Fq:=
 bif(decide (y.1.2.2.1>=(0:Int))) then
(aU y.1.1 y.1.2.2.1).bind fun a=>
 bif((a.toNat:Int)==y.1.2.1) then
 some (.inr (.inl ((y.1.2.2.1,()),())))
else
 some (.inl ((y.1.1,y.1.2.1,(IntKind.i64.wrap (y.1.2.2.1-(1:Int))),()),()))
else
 some (.inr (.inr ((),())))
noncomputable def F7:yH.J->Option (aD Fq):=bv GD
theorem af6:aY U (an (codeOf Tryz.f267) 1 26) (a' yH Fq F7):=bT g0 (by kernel_rfl) ag fun y=>by kernel_rfl
abbrev i267:Shape:=⟨[ao 0,(1,.ak (.d (.int .u8)))],[],19⟩
abbrev SG:Shape:=⟨[ae 4],[],19⟩
noncomputable def f267(a:i267.J):Option SG.J:=
(F7 ((a.1.1,a.1.2.1,(IntKind.i64.wrap ((a.1.1.length:Int)-(1:Int))),()),())).bind fun b=>
(match b with
|.inl c=>
 some ((c.1.1,()),())
|.inr d=>
 some ((((-1):Int),()),()))
noncomputable def UK:aH:=aP aj Tryz.f267 i267 SG [] f267
theorem akj:aG U 267 UK:=aS g0 Tryz.func267 (by kernel_rfl) (ba af6 ag) (fun y=>by kernel_rfl) fun a=>by kernel_rfl
noncomputable abbrev amz:bi:=[(267,UK)]
theorem anL:a_ U (bg aj amz):=bf ⟨akj,⟨⟩⟩
abbrev i233:Shape:=⟨[ao 0,(1,.ak (.d (.int .u8)))],[],8⟩
abbrev SN:Shape:=⟨[ae 4],[],8⟩
noncomputable def f233(a:i233.J):Option SN.J:=
(f267 ((a.1.1,a.1.2.1,()),())).bind fun b=>
 some ((b.1.1,()),())
noncomputable def UR:aH:=aP aj Tryz.f233 i233 SN [] f233
theorem z233:aG U 233 UR:=aS anL Tryz.func233 (by kernel_rfl) ag (fun y=>by kernel_rfl) fun a=>by kernel_rfl
noncomputable abbrev amM:bi:=[(199,I2),(233,UR)]
theorem anT:a_ U (bg aj amM):=bf ⟨Sh,z233,⟨⟩⟩
abbrev i200:Shape:=⟨[ao 0],[],11⟩
abbrev S6:Shape:=⟨[ao 2],[],11⟩
noncomputable def f200(a:i200.J):Option S6.J:=
(f199 ((a.1.1,()),())).bind fun b=>
 bif(!b.2.1.1) then
 some ((([]:F),()),())
else
(f233 ((a.1.1,(47:Int),()),())).bind fun c=>
(br a.1.1 (0:Int) (fQ c.1.1 (0:Int))).bind fun d=>
 some ((d,()),())
noncomputable def U5:aH:=aP aj Tryz.f200 i200 S6 [] f200
theorem akz:aG U 200 U5:=aS anT Tryz.func200 (by kernel_rfl) ag (fun y=>by kernel_rfl) fun a=>by kernel_rfl
abbrev i283:Shape:=⟨[ao 0],[],6⟩
abbrev SB:Shape:=⟨[au 2],[],6⟩
noncomputable def f283(a:i283.J):Option SB.J:=
 some (((!(a.1.1==a.1.1)),()),())
noncomputable def UF:aH:=aP aj Tryz.f283 i283 SB [] f283
theorem ake:aG U 283 UF:=aS g0 Tryz.func283 (by kernel_rfl) ag (fun y=>by kernel_rfl) fun a=>by kernel_rfl
noncomputable abbrev amu:bi:=[(283,UF)]
theorem anH:a_ U (bg aj amu):=bf ⟨ake,⟨⟩⟩
abbrev i268:Shape:=⟨[ao 0,ao 1],[],20⟩
abbrev SF:Shape:=⟨[ae 4],[],20⟩
noncomputable def f268(a:i268.J):Option SF.J:=
(f283 ((a.1.1,()),())).bind fun b=>
(f283 ((a.1.2.1,()),())).bind fun c=>
 bif b.1.1 then
 bif c.1.1 then
 some (((0:Int),()),())
else
 some ((((-1):Int),()),())
else
 bif c.1.1 then
 some (((1:Int),()),())
else
 bif(Op.bytesLess a.1.1 a.1.2.1) then
 some ((((-1):Int),()),())
else
 bif(!(Op.bytesLess a.1.1 a.1.2.1||a.1.1==a.1.2.1)) then
 some (((1:Int),()),())
else
 some (((0:Int),()),())
noncomputable def UJ:aH:=aP aj Tryz.f268 i268 SF [] f268
theorem aki:aG U 268 UJ:=aS anH Tryz.func268 (by kernel_rfl) ag (fun y=>by kernel_rfl) fun a=>by kernel_rfl
noncomputable abbrev amy:bi:=[(268,UJ)]
theorem anK:a_ U (bg aj amy):=bf ⟨aki,⟨⟩⟩
abbrev i235:Shape:=⟨[cC 0 [ai,bq,bq,ai],cC 1 [ai,bq,bq,ai]],[],10⟩
abbrev SM:Shape:=⟨[ae 4],[],10⟩
noncomputable def f235(a:i235.J):Option SM.J:=
(f268 ((a.1.1.1,a.1.2.1.1,()),())).bind fun b=>
 some ((b.1.1,()),())
noncomputable def UQ:aH:=aP aj Tryz.f235 i235 SM [] f235
theorem akp:aG U 235 UQ:=aS anK Tryz.func235 (by kernel_rfl) ag (fun y=>by kernel_rfl) fun a=>by kernel_rfl
noncomputable abbrev aiS:bi:=[(235,UQ)]
theorem Rw:a_ U (bg aj aiS):=bf ⟨akp,⟨⟩⟩
abbrev xE:Shape:=⟨[aK 0 .entry,(2,.ak (.fn 235 [])),aM 4 4 0,ae 6,au 7,ae 8,ae 9,ae 10],[aL 4 [ai,bq,bq,ai]],49⟩
abbrev Du:List aO:=[(.exit 0,⟨[aK 0 .entry,(2,.ak (.fn 235 [])),aM 4 4 0,ae 6,au 7,ae 8,ae 9],[aL 4 [ai,bq,bq,ai]],49⟩)]
noncomputable def xP(y:xE.J):bR xE Du:=
 bif(decide (y.1.2.2.2.2.2.2.1<y.1.2.2.2.2.2.2.2.1)) then
(e7 .u64 (IntKind.u64.wrap (IntKind.i64.wrap (y.1.2.2.2.2.2.2.1+y.1.2.2.2.2.2.2.2.1))) (1:Int)).bind fun a=>
(aU y.1.1 (IntKind.i64.wrap a)).bind fun b=>
(f235 (((b.path,b.kind,b.mode,b.text,()),(y.2.1.1,y.2.1.2.1,y.2.1.2.2.1,y.2.1.2.2.2.1,()),()),())).bind fun c=>
 bif(decide (c.1.1<(0:Int))) then
 some (.inl ((y.1.1,(),(),y.1.2.2.2.1,y.1.2.2.2.2.1,y.1.2.2.2.2.2.1,(IntKind.i64.wrap ((IntKind.i64.wrap a)+(1:Int))),y.1.2.2.2.2.2.2.2.1,()),(y.2.1.1,y.2.1.2.1,y.2.1.2.2.1,y.2.1.2.2.2.1,()),()))
else
 some (.inl ((y.1.1,(),(),y.1.2.2.2.1,y.1.2.2.2.2.1,y.1.2.2.2.2.2.1,y.1.2.2.2.2.2.2.1,(IntKind.i64.wrap a),()),(y.2.1.1,y.2.1.2.1,y.2.1.2.2.1,y.2.1.2.2.2.1,()),()))
else
 some (.inr ((y.1.1,(),(),y.1.2.2.2.1,y.1.2.2.2.2.1,y.1.2.2.2.2.2.1,y.1.2.2.2.2.2.2.1,()),(y.2.1.1,y.2.1.2.1,y.2.1.2.2.1,y.2.1.2.2.2.1,()),()))
noncomputable def xO:xE.J->Option (aD Du):=bv xP
theorem acy:aY U (an (codeOf Tryz.f234) 1 60) (a' xE Du xO):=bT Rw (by kernel_rfl) ag fun y=>by kernel_rfl
abbrev Q2:Shape:=⟨[aK 0 .entry,cC 1 [ai,bq,bq,ai],(2,.ak (.fn 235 []))],[],49⟩
abbrev QO:Shape:=⟨[ae 6,au 7],[],49⟩
noncomputable def AH(a:Q2.J):Option QO.J:=
(xO ((a.1.1,(),(),(0:Int),false,(a.1.1.length:Int),(0:Int),(a.1.1.length:Int),()),(a.1.2.1.1,a.1.2.1.2.1,a.1.2.1.2.2.1,a.1.2.1.2.2.2.1,()),())).bind fun b=>
 bif(decide (b.1.2.2.2.2.2.2.1<b.1.2.2.2.2.2.1)) then
(aU b.1.1 b.1.2.2.2.2.2.2.1).bind fun c=>
(f235 (((c.path,c.kind,c.mode,c.text,()),(b.2.1.1,b.2.1.2.1,b.2.1.2.2.1,b.2.1.2.2.2.1,()),()),())).bind fun d=>
 some ((b.1.2.2.2.2.2.2.1,(d.1.1==(0:Int)),()),())
else
 some ((b.1.2.2.2.2.2.2.1,false,()),())
noncomputable def Rl:aH:=aP aj Tryz.f234 Q2 QO [] AH
theorem ahs:aG U 234 Rl:=aS Rw Tryz.func234 (by kernel_rfl) (ba acy ag) (fun y=>by kernel_rfl) fun a=>by kernel_rfl
noncomputable abbrev amL:bi:=[(234,Rl)]
theorem anS:a_ U (bg aj amL):=bf ⟨ahs,⟨⟩⟩
abbrev i201:Shape:=⟨[aK 0 .entry,ao 1],[],12⟩
abbrev S5:Shape:=⟨[ae 4,au 5],[],12⟩
noncomputable def f201(a:i201.J):Option S5.J:=
(AH ((a.1.1,(a.1.2.1,(0:Int),(0:Int),([]:F),()),(),()),())).bind fun b=>
 some ((b.1.1,b.1.2.1,()),())
noncomputable def I1:aH:=aP aj Tryz.f201 i201 S5 [] f201
theorem z201:aG U 201 I1:=aS anS Tryz.func201 (by kernel_rfl) ag (fun y=>by kernel_rfl) fun a=>by kernel_rfl
theorem AO:∀a:F,Op.bytesLess a a=false:=by
 intro a;induction a with
 |nil=>rfl
 |cons b r ih=>simp[Op.bytesLess,ih]
theorem ur:∀a b c:F,Op.bytesLess a b=true->Op.bytesLess b c=true->Op.bytesLess a c=true:=by
 intro a;induction a with
 |nil=>intro b c h1 h2;cases c with
  |nil=>cases b<;>simp[Op.bytesLess] at h2
  |cons z c=>rfl
 |cons x a ih=>
  intro b c h1 h2;cases b with
  |nil=>simp[Op.bytesLess] at h1
  |cons y b=>
   cases c with
   |nil=>simp[Op.bytesLess] at h2
   |cons z c=>
    simp only[Op.bytesLess,Bool.or_eq_true,decide_eq_true_eq,Bool.and_eq_true,beq_iff_eq] at h1 h2 ⊢;rcases h1 with h1|⟨rfl,h1⟩
    ·rcases h2 with h2|⟨rfl,h2⟩
     ·exact .inl (UInt8.lt_trans h1 h2)
     ·exact .inl h1
    ·rcases h2 with h2|⟨rfl,h2⟩
     ·exact .inl h2
     ·exact .inr ⟨rfl,ih b c h1 h2⟩
theorem aiL:∀a b:F,Op.bytesLess a b=false->(a==b)=false->Op.bytesLess b a=true:=by
 intro a;induction a with
 |nil=>intro b h1 h2;cases b with
  |nil=>simp at h2
  |cons y b=>simp[Op.bytesLess] at h1
 |cons x a ih=>
  intro b h1 h2;cases b with
  |nil=>rfl
  |cons y b=>
   simp only[Op.bytesLess,Bool.or_eq_false_iff,decide_eq_false_iff_not,Bool.and_eq_false_iff,beq_eq_false_iff_ne,ne_eq] at h1;simp only[Op.bytesLess,Bool.or_eq_true,decide_eq_true_eq,Bool.and_eq_true,beq_iff_eq];by_cases hxy:x=y
   ·subst hxy;refine .inr ⟨rfl,ih b ?_ ?_⟩
    ·rcases h1.2 with h|h
     ·exact absurd rfl h
     ·exact h
    ·cases h:(a==b) with
     |false=>rfl
     |true=>rw[eq_of_beq h] at h2;simp at h2
   ·exact .inl (by
     have:=h1.1;rcases UInt8.lt_or_lt_of_ne (fun h=>hxy h) with h|h
     ·exact absurd h this
     ·exact h)
theorem ahh{a b:F}(h:Op.bytesLess a b=true):Op.bytesLess b a=false:=by
 cases h2:Op.bytesLess b a with
 |false=>rfl
 |true=>have:=ur a b a h h2;rw[AO] at this;cases this
theorem aj4{a b:F}(h:Op.bytesLess a b=true):(a==b)=false:=by
 cases h2:(a==b) with
 |false=>rfl
 |true=>rw[eq_of_beq h2,AO] at h;cases h
theorem ahg:∀(s:F) (i:Nat),i<s.length->Op.bytesLess (s.take i) s=true:=by
 intro s;induction s with
 |nil=>intro i h;simp at h
 |cons b r ih=>
  intro i h;cases i with
  |zero=>rfl
  |succ i=>simp only[List.take_succ_cons,Op.bytesLess];simp[ih i (by simpa using h)]
def kZ(c:UInt8)(s:F):Nat->Option Nat
 |0=>none
 |n+1=>match s[n]? with
  |some b=>bif(b.toNat:Int)==(c.toNat:Int) then some n else kZ c s n
  |none=>none
theorem L1{c:UInt8}{s:F}:∀{n i:Nat},kZ c s n=some i->i<n/\i<s.length:=by
 intro n;induction n with
 |zero=>intro i h;cases h
 |succ n ih=>
  intro i h;simp only[kZ] at h;split at h
  ·rename_i b hb;cases hc:((b.toNat:Int)==(c.toNat:Int)) with
   |true=>rw[hc] at h;cases h;exact⟨Nat.lt_succ_self _,cS hb⟩
   |false=>rw[hc] at h;have:=ih h;omega
  ·cases h
def je(s:F):F:=match kZ 47 s s.length with
 |some i=>s.take i
 |none=>[]
theorem ad3{s:F}(h:(je s==[])=false):Op.bytesLess (je s) s=true:=by
 unfold je at h ⊢;split
 ·rename_i i hi;exact ahg s i (L1 hi).2
 ·rename_i hi;rw[hi] at h;cases h
theorem ahG(a)(hs:cR a.1.1.length):f145 a=some ((je a.1.1,()),()):=by
 obtain⟨⟨s,u⟩,b5⟩:=a;have hs:s.length<=2097152:=hs;have key:∀n,n<=s.length->Gf ((s,((n:Int)-1,())),())=some (match kZ 47 s n with|some i=>.inl ((s.take i,()),())|none=>.inr ((),())):=by
  intro n;induction n with
  |zero=>intro _;exact ca (by rfl)
  |succ n ih=>
   intro hn;have e:((n+1:Nat):Int)-1=(n:Int):=by omega
   obtain⟨b,hb⟩:∃b,s[n]? =some b:=⟨s[n],List.getElem?_eq_getElem hn⟩;have h0:decide ((n:Int)>=0)=true:=by simp
   rw[e];simp only[kZ,hb];cases hc:((b.toNat:Int)==((47:UInt8).toNat:Int)) with
   |true=>
    refine ca ?_
    simp only[GK,h0,cond_true,bX,hb,Option.bind_some];rw[show((b.toNat:Int)==47)=true from hc,gI (by omega)]
    rfl
   |false=>
    refine(dz ?_).trans (ih (by omega))
    simp only[GK,h0,cond_true,bX,hb,Option.bind_some];rw[show((b.toNat:Int)==47)=false from hc,eg (by omega) (by omega)]
    rfl
 have hw:IntKind.i64.wrap ((s.length:Int)-1)=(s.length:Int)-1:=eg (by omega) (by omega)
 simp only[f145,hw,key s.length (Nat.le_refl _),Option.bind_some,je];cases kZ 47 s s.length<;>rfl
theorem _L(a)(hs:cR a.1.1.length)(aqD:a.1.2.1=47):f267 a=some (((match kZ 47 a.1.1 a.1.1.length with|some i=>(i:Int)|none=>-1),()),()):=by
 obtain⟨⟨s,c,u⟩,b5⟩:=a;obtain rfl:c=47:=aqD;have hs:s.length<=2097152:=hs;have key:∀n,n<=s.length->F7 ((s,((47:Int),((n:Int)-1,()))),())=some (match kZ 47 s n with|some i=>.inl (((i:Int),()),())|none=>.inr ((),())):=by
  intro n;induction n with
  |zero=>intro _;exact ca (by rfl)
  |succ n ih=>
   intro hn;have e:((n+1:Nat):Int)-1=(n:Int):=by omega
   obtain⟨b,hb⟩:∃b,s[n]? =some b:=⟨s[n],List.getElem?_eq_getElem hn⟩;have h0:decide ((n:Int)>=0)=true:=by simp
   rw[e];simp only[kZ,hb];cases hc:((b.toNat:Int)==((47:UInt8).toNat:Int)) with
   |true=>
    refine ca ?_
    simp only[GD,h0,cond_true,bX,hb,Option.bind_some];rw[show((b.toNat:Int)==47)=true from hc]
    rfl
   |false=>
    refine(dz ?_).trans (ih (by omega))
    simp only[GD,h0,cond_true,bX,hb,Option.bind_some];rw[show((b.toNat:Int)==47)=false from hc,eg (by omega) (by omega)]
    rfl
 have hw:IntKind.i64.wrap ((s.length:Int)-1)=(s.length:Int)-1:=eg (by omega) (by omega)
 simp only[f267,hw,key s.length (Nat.le_refl _),Option.bind_some];cases kZ 47 s s.length<;>rfl
theorem adZ(a)(hs:cR a.1.1.length):f200 a=some (((bif f_ a.1.1 then je a.1.1 else []),()),()):=by
 obtain⟨⟨s,u⟩,b5⟩:=a;have hs:s.length<=2097152:=hs;have e1:=Ee ((s,()),()) hs;have e2:=_L ((s,((47:Int),())),()) hs rfl;simp only[f200,e1,Option.bind_some,f233,e2];cases f_ s with
 |false=>rfl
 |true=>
  simp only[Bool.not_true,cond_false,cond_true];unfold je;cases hl:kZ 47 s s.length with
  |none=>
   have:fQ (-1) 0=0:=by decide
   simp only[this];have:=gI (xs:=s) (b:=0) (Nat.zero_le _);have this:br s 0 0=some (s.take 0):=this;rw[this];rfl
  |some i=>
   have hi:=(L1 hl).2;have:fQ (i:Int) 0=(i:Int):=by unfold fQ;rw[if_neg (by omega)]
   simp only[this];rw[gI (by omega)];rfl
def b6(t:List az)(p:F):Nat:=(t.takeWhile fun e=>Op.bytesLess e.path p).length
def jW(t:List az)(p:F):Bool:=match t[b6 t p]? with
 |some e=>e.path==p
 |none=>false
def ko(t:List az)(p:F):Bool:=p==[]||match t[b6 t p]? with
 |some e=>e.path==p&&e.kind==1
 |none=>false
theorem rX(t:List az)(p:F):b6 t p<=t.length:=(List.takeWhile_prefix _).length_le
theorem Qp(a)(hs:cR a.1.1.length):f194 a=some (((b6 a.1.1 a.1.2.1:Int),(jW a.1.1 a.1.2.1,())),()):=by
 obtain⟨⟨t,p,u⟩,b5⟩:=a;have hs:t.length<=2097152:=hs;have key:F' ((t,(p,((0:Int),(false,((0:Int),()))))),())=_:=DN zq t (fun i (_:Unit)=>((t,(p,((0:Int),(false,((i:Int),()))))),()))
  (fun i e _=>some (bif Op.bytesLess e.path p then .inl () else .inr ((((t,(p,((0:Int),(false,((i:Int),()))))),())):aD rV))) (fun _=>((t,(p,((0:Int),(false,((t.length:Int),()))))),())) (fun i e s he=>?_) (fun s=>?_) ()
 ·have fold:∀(r:List az) (k:Nat),k+r.length=t.length->eK (fun i (e:az) (_:Unit)=>some (bif Op.bytesLess e.path p then .inl () else .inr ((((t,(p,((0:Int),(false,((i:Int),()))))),())):aD rV))) (fun _=>(((t,(p,((0:Int),(false,((t.length:Int),()))))),()):aD rV)) k r ()=
    some ((t,(p,((0:Int),(false,(((k+(r.takeWhile fun e=>Op.bytesLess e.path p).length:Nat):Int),()))))),()):=by
   intro r;induction r with
   |nil=>intro k hk;simp only[eK,List.takeWhile_nil,List.length_nil,Nat.add_zero] at hk ⊢;rw[hk]
   |cons e r ih=>
    intro k hk;simp only[eK,List.takeWhile_cons];cases hl:Op.bytesLess e.path p with
    |false=>rfl
    |true=>
     simp only[cond_true,if_true,List.length_cons];rw[ih (k+1) (by simp only[List.length_cons] at hk;omega)]
     have:k+1+(r.takeWhile fun e=>Op.bytesLess e.path p).length=k+((r.takeWhile fun e=>Op.bytesLess e.path p).length+1):=by omega
     rw[this]
  rw[fold t 0 (Nat.zero_add _),Nat.zero_add] at key;have hk:(t.takeWhile fun e=>Op.bytesLess e.path p).length=b6 t p:=rfl
  rw[hk] at key;simp only[f194,key,Option.bind_some,jW,bX];cases aq:t[b6 t p]? with
  |none=>
   have:=List.getElem?_eq_none_iff.1 aq;have:decide ((b6 t p:Int)<(t.length:Int))=false:=by simp only[decide_eq_false_iff_not];omega
   rw[this];rfl
  |some e=>rw[b8 (cS aq)];rfl
 ·have hi:=cS he;have hw:ap i:=by unfold ap;omega
  simp only[zq,b8 hi,cond_true,bX,he,Option.bind_some,bS hw];cases Op.bytesLess e.path p<;>rfl
 ·simp only[zq,dh,cond_false]
theorem afK(a)(hs:cR a.1.1.length):f144 a=some ((ko a.1.1 a.1.2.1,()),()):=by
 obtain⟨⟨t,p,u⟩,b5⟩:=a;have e1:=Qp ((t,(p,())),()) hs;simp only[f144,e1,Option.bind_some,ko,jW,bX];cases (p==[]) with
 |true=>rfl
 |false=>
  cases aq:t[b6 t p]? with
  |none=>rfl
  |some e=>simp only[Bool.not_false,cond_true,Option.bind_some,Bool.false_or];cases (e.path==p)<;>rfl
def gm(t:List az):Prop:=t.Pairwise fun a b=>Op.bytesLess a.path b.path=true
theorem gm.take{t:List az}(h:gm t)(i:Nat):gm (t.take i):=List.Pairwise.sublist (List.take_sublist i t) h
theorem lD:∀{t:List az} {p:F},gm t->∀(h:Nat) (e:az),t[h]? =some e->Op.bytesLess e.path p=decide (h<b6 t p):=by
 intro t p;induction t with
 |nil=>intro _ h e he;simp at he
 |cons x t ih=>
  intro ha h e he;have fc:=List.pairwise_cons.1 ha;unfold b6;rw[List.takeWhile_cons];cases hx:Op.bytesLess x.path p with
  |true=>
   simp only[if_true,List.length_cons];cases h with
   |zero=>simp only[List.getElem?_cons_zero,Option.some.injEq] at he;subst he;rw[hx];simp
   |succ h=>
    simp only[List.getElem?_cons_succ] at he;rw[ih fc.2 h e he];unfold b6;congr 1;apply propext;omega
  |false=>
   have:(decide (h<(if false=true then x::t.takeWhile (fun e=>Op.bytesLess e.path p) else []).length))=false:=by simp
   rw[this];cases h with
   |zero=>simp only[List.getElem?_cons_zero,Option.some.injEq] at he;subst he;exact hx
   |succ h=>
    simp only[List.getElem?_cons_succ] at he;have h2:=fc.1 e (List.mem_of_getElem? he);cases h3:Op.bytesLess e.path p with
    |false=>rfl
    |true=>have:=ur _ _ _ h2 h3;rw[hx] at this;cases this
def s7(a b:F):Int:=bif Op.bytesLess a b then-1 else bif a==b then 0 else 1
theorem Ec(a):f235 a=some ((s7 a.1.1.1 a.1.2.1.1,()),()):=by
 obtain⟨⟨⟨p,dX⟩,⟨⟨q,fI⟩,jl⟩⟩,YN⟩:=a;have h1:(p==p)=true:=by simp
 have h2:(q==q)=true:=by simp
 simp only[f235,f268,f283,Option.bind_some,h1,h2,Bool.not_true,cond_false,s7];cases Op.bytesLess p q<;>cases (p==q)<;>rfl
theorem O4(a b:F):decide (s7 a b<0)=Op.bytesLess a b:=by
 unfold s7;cases Op.bytesLess a b<;>cases (a==b)<;>rfl
theorem adu(a b:F):(s7 a b==0)=(a==b):=by
 unfold s7;cases h:Op.bytesLess a b with
 |true=>rw[aj4 h];rfl
 |false=>cases (a==b)<;>rfl
theorem alp{n:Nat}(h:n<=1099511627776):e7 .u64 (IntKind.u64.wrap (IntKind.i64.wrap (n:Int))) 1=some (((n/2:Nat)):Int):=by
 rw[eg (by omega) (by omega)]
 have:IntKind.u64.wrap (n:Int)=(n:Int):=by
  simp[IntKind.wrap,IntKind.bits,IntKind.signed];omega
 rw[this];unfold e7;rw[if_neg (by decide)]
 congr 1
 show Int.fdiv (n:Int) 2=_;rw[Int.fdiv_eq_ediv_of_nonneg _ (by decide)]
 omega
theorem L8(a)(hs:cR a.1.1.length)(ha:gm a.1.1):f201 a=some (((b6 a.1.1 a.1.2.1:Int),(jW a.1.1 a.1.2.1,())),()):=by
 obtain⟨⟨t,p,u⟩,b5⟩:=a;have hs:t.length<=2097152:=hs;have CI:=rX t p;have key:∀d i j:Nat,j-i=d->i<=b6 t p->b6 t p<=j->j<=t.length->
   xO ((t,((),((),((0:Int),(false,((t.length:Int),((i:Int),((j:Int),())))))))),((p,((0:Int),((0:Int),(([]:F),())))),()))=
    some (((t,((),((),((0:Int),(false,((t.length:Int),((b6 t p:Int),()))))))),((p,((0:Int),((0:Int),(([]:F),())))),()))):=by
  intro d;induction d using Nat.strongRecOn with
  |_ d ih=>
   intro i j Z hi hj hl;by_cases pi:i<j
   ·have bP:(i+j)/2<t.length:=by omega
    obtain⟨e,he⟩:∃e,t[(i+j)/2]? =some e:=⟨t[(i+j)/2],List.getElem?_eq_getElem bP⟩;have hsh:e7 .u64 (IntKind.u64.wrap (IntKind.i64.wrap ((i:Int)+(j:Int)))) 1=some ((((i+j)/2:Nat)):Int):=by
     rw[<-alp (n:=i+j) (by omega)];rw[Int.natCast_add]
    have Xq:IntKind.i64.wrap (((i+j)/2:Nat):Int)=(((i+j)/2:Nat):Int):=eg (by omega) (by omega)
    have n5:=lD (t:=t) (p:=p) ha ((i+j)/2) e he;cases hb:Op.bytesLess e.path p with
    |true=>
     rw[hb] at n5;have hlt:(i+j)/2<b6 t p:=by simpa using n5.symm
     refine(dz ?_).trans (ih (j-((i+j)/2+1)) (by omega) ((i+j)/2+1) j rfl (by omega) hj hl)
     simp only[xP,b8 pi,cond_true,hsh,Xq,bX,he,Option.bind_some,Ec,O4,hb,bS (i:=(i+j)/2) (by unfold ap;omega)]
    |false=>
     rw[hb] at n5;have hge:¬(i+j)/2<b6 t p:=by simpa using n5.symm
     refine(dz ?_).trans (ih ((i+j)/2-i) (by omega) i ((i+j)/2) rfl hi (by omega) (by omega))
     simp only[xP,b8 pi,cond_true,hsh,Xq,bX,he,Option.bind_some,Ec,O4,hb,cond_false]
   ·have j_:i=b6 t p:=by omega
    have hlt:decide ((i:Int)<(j:Int))=false:=by simp only[decide_eq_false_iff_not];omega
    refine ca ?_
    simp only[xP,hlt,cond_false];rw[j_]
 have lw:xO ((t,((),((),((0:Int),(false,((t.length:Int),((0:Int),((t.length:Int),())))))))),((p,((0:Int),((0:Int),(([]:F),())))),()))=_:=key t.length 0 t.length (Nat.sub_zero _) (Nat.zero_le _) CI (Nat.le_refl _);have Y:AH ((t,((p,((0:Int),((0:Int),(([]:F),())))),((),()))),())=some (((b6 t p:Int),(jW t p,())),()):=by
  simp only[AH,lw,Option.bind_some,jW,bX,Ec,adu];cases aq:t[b6 t p]? with
  |none=>
   have:=List.getElem?_eq_none_iff.1 aq;have:decide ((b6 t p:Int)<(t.length:Int))=false:=by simp only[decide_eq_false_iff_not];omega
   rw[this];rfl
  |some e=>rw[b8 (cS aq)];rfl
 simp only[f201,Y,Option.bind_some]
noncomputable abbrev am6:bi:=[(200,U5),(201,I1)]
theorem an0:a_ U (bg aj am6):=bf ⟨akz,z201,⟨⟩⟩
abbrev i153:Shape:=⟨[aK 0 .entry,ao 1],[],27⟩
abbrev Tv:Shape:=⟨[au 4],[],27⟩
noncomputable def f153(a:i153.J):Option Tv.J:=
(f200 ((a.1.2.1,()),())).bind fun b=>
 bif(b.1.1==([]:F)) then
 some ((true,()),())
else
(f201 ((a.1.1,b.1.1,()),())).bind fun c=>
 bif c.1.2.1 then
(aU a.1.1 c.1.1).bind fun d=>
 some (((d.kind==(1:Int)),()),())
else
 some ((false,()),())
noncomputable def Vs:aH:=aP aj Tryz.f153 i153 Tv [] f153
theorem akQ:aG U 153 Vs:=aS an0 Tryz.func153 (by kernel_rfl) ag (fun y=>by kernel_rfl) fun a=>by kernel_rfl
noncomputable abbrev anC:bi:=[(152,Vt),(153,Vs)]
theorem Jl:a_ U (bg aj anC):=bf ⟨z152,akQ,⟨⟩⟩
abbrev ND:Shape:=⟨[aK 0 .entry,ae 3,aM 4 4 0,aK 8 .entry,ae 9,ae 10],[aL 4 [ai,bq,bq,ai]],43⟩
abbrev Nk:List aO:=[(.norm,⟨[aK 0 .entry,aK 8 .entry,ae 9,ae 10,cC 15 [ai,bq,bq,ai],au 16,au 17,au 18,au 32,au 33,au 41],[],43⟩)]
noncomputable def D6(y:ND.J):Option (aD Nk):=
(f152 (((y.2.1.1,y.2.1.2.1,y.2.1.2.2.1,y.2.1.2.2.2.1,()),()),())).bind fun a=>
 bif(!a.1.1) then
 some ((y.1.1,y.1.2.2.2.1,y.1.2.2.2.2.1,y.1.2.2.2.2.2.1,(y.2.1.1,y.2.1.2.1,y.2.1.2.2.1,y.2.1.2.2.2.1,()),a.1.1,(!a.1.1),true,true,true,true,()),())
else
 bif(decide (y.1.2.1>(0:Int))) then
(aU y.1.1 (IntKind.i64.wrap (y.1.2.1-(1:Int)))).bind fun b=>
 bif(!(Op.bytesLess b.path y.2.1.1)) then
 some ((y.1.1,y.1.2.2.2.1,y.1.2.2.2.2.1,y.1.2.2.2.2.2.1,(y.2.1.1,y.2.1.2.1,y.2.1.2.2.1,y.2.1.2.2.2.1,()),a.1.1,(!a.1.1),false,(!(Op.bytesLess b.path y.2.1.1)),true,true,()),())
else
(br y.1.1 (0:Int) y.1.2.1).bind fun c=>
(f153 ((c,y.2.1.1,()),())).bind fun d=>
 some ((y.1.1,y.1.2.2.2.1,y.1.2.2.2.2.1,y.1.2.2.2.2.2.1,(y.2.1.1,y.2.1.2.1,y.2.1.2.2.1,y.2.1.2.2.2.1,()),a.1.1,(!a.1.1),false,(!(Op.bytesLess b.path y.2.1.1)),false,(!d.1.1),()),())
else
(br y.1.1 (0:Int) y.1.2.1).bind fun e=>
(f153 ((e,y.2.1.1,()),())).bind fun f=>
 some ((y.1.1,y.1.2.2.2.1,y.1.2.2.2.2.1,y.1.2.2.2.2.2.1,(y.2.1.1,y.2.1.2.1,y.2.1.2.2.1,y.2.1.2.2.2.1,()),a.1.1,(!a.1.1),false,false,false,(!f.1.1),()),())
theorem acP:aY U (an (da (an (codeOf Tryz.f105) 1 58)) 116 7474) (a' ND Nk D6):=cW Jl (by kernel_rfl) ag fun y=>by kernel_rfl
abbrev za:Shape:=⟨[aK 0 .entry,aK 8 .entry,ae 9,ae 10],[],43⟩
abbrev uv:List aO:=[(.ret,⟨[au 2],[],43⟩),(.exit 0,⟨[],[],43⟩)]
noncomputable def zK(y:za.J):bR za uv:=
 bif(decide (y.1.2.2.2.1<y.1.2.2.1)) then
(aU y.1.2.1 y.1.2.2.2.1).bind fun a=>
(D6 ((y.1.1,y.1.2.2.2.1,(),y.1.2.1,y.1.2.2.1,y.1.2.2.2.1,()),(a.path,a.kind,a.mode,a.text,()),())).bind fun b=>
 bif b.1.2.2.2.2.2.2.2.2.2.2.1 then
 some (.inr (.inl ((false,()),())))
else
 some (.inl ((b.1.1,b.1.2.1,b.1.2.2.1,(IntKind.i64.wrap (b.1.2.2.2.1+(1:Int))),()),()))
else
 some (.inr (.inr ((),())))
noncomputable def Gs:za.J->Option (aD uv):=bv zK
theorem agM:aY U (an (codeOf Tryz.f105) 1 58) (a' za uv Gs):=bT Jl (by kernel_rfl) (ba acP ag) fun y=>by kernel_rfl
abbrev i105:Shape:=⟨[aK 0 .entry],[],43⟩
abbrev T2:Shape:=⟨[au 2],[],43⟩
noncomputable def f105(a:i105.J):Option T2.J:=
 bif(decide ((a.1.1.length:Int)>(16:Int))) then
 some ((false,()),())
else
(Gs ((a.1.1,a.1.1,(a.1.1.length:Int),(0:Int),()),())).bind fun b=>
(match b with
|.inl c=>
 some ((c.1.1,()),())
|.inr d=>
 some ((true,()),()))
noncomputable def vL:aH:=aP aj Tryz.f105 i105 T2 [] f105
theorem z105:aG U 105 vL:=aS Jl Tryz.func105 (by kernel_rfl) (ba agM ag) (fun y=>by kernel_rfl) fun a=>by kernel_rfl
noncomputable abbrev arp:bi:=[(143,VB),(144,VA),(145,Vz)]
theorem Cy:a_ U (bg aj arp):=bf ⟨z143,akU,z145,⟨⟩⟩
abbrev Py:Shape:=⟨[aK 0 .entry,ae 3],[],53⟩
abbrev Pf:List aO:=[(.norm,⟨[aK 0 .entry,ae 3,aK 11 .entry,ae 12,(13,.ak (.ev [.str,.int .i64,.int .i64,.str] 0)),cC 14 [ai,bq,bq,ai],au 15,au 16,au 17,au 34],[],53⟩)]
noncomputable def Gy(y:Py.J):Option (aD Pf):=
(aU y.1.1 y.1.2.1).bind fun a=>
(f143 (((a.path,a.kind,a.mode,a.text,()),()),())).bind fun b=>
 bif(!b.1.1) then
 some ((y.1.1,y.1.2.1,y.1.1,y.1.2.1,(a.path,a.kind,a.mode,a.text,()),(a.path,a.kind,a.mode,a.text,()),b.1.1,(!b.1.1),true,true,()),())
else
 bif(decide (y.1.2.1>(0:Int))) then
(aU y.1.1 (IntKind.i64.wrap (y.1.2.1-(1:Int)))).bind fun c=>
(aU y.1.1 y.1.2.1).bind fun d=>
 some ((y.1.1,y.1.2.1,y.1.1,y.1.2.1,(a.path,a.kind,a.mode,a.text,()),(a.path,a.kind,a.mode,a.text,()),b.1.1,(!b.1.1),false,(!(Op.bytesLess c.path d.path)),()),())
else
 some ((y.1.1,y.1.2.1,y.1.1,y.1.2.1,(a.path,a.kind,a.mode,a.text,()),(a.path,a.kind,a.mode,a.text,()),b.1.1,(!b.1.1),false,false,()),())
theorem afU:aY U (an (da (an (codeOf Tryz.f90) 1 26)) 52 840) (a' Py Pf Gy):=cW Cy (by kernel_rfl) ag fun y=>by kernel_rfl
abbrev z_:Shape:=⟨[aK 0 .entry,ae 3],[],53⟩
abbrev G1:List aO:=[(.ret,⟨[au 2],[],53⟩),(.exit 0,⟨[aK 0 .entry],[],53⟩)]
noncomputable def Aw(y:z_.J):bR z_ G1:=
 bif(decide (y.1.2.1<(y.1.1.length:Int))) then
(Gy ((y.1.1,y.1.2.1,()),())).bind fun a=>
 bif a.1.2.2.2.2.2.2.2.2.2.1 then
 some (.inr (.inl ((false,()),())))
else
 some (.inl ((a.1.1,(IntKind.i64.wrap (a.1.2.1+(1:Int))),()),()))
else
 some (.inr (.inr ((y.1.1,()),())))
noncomputable def Hk:z_.J->Option (aD G1):=bv Aw
theorem ah0:aY U (an (codeOf Tryz.f90) 1 26) (a' z_ G1 Hk):=bT Cy (by kernel_rfl) (ba afU ag) fun y=>by kernel_rfl
abbrev z8:Shape:=⟨[aK 0 .entry,ae 4],[],53⟩
abbrev G0:List aO:=[(.ret,⟨[au 2],[],53⟩),(.exit 2,⟨[aK 0 .entry],[],53⟩)]
noncomputable def Av(y:z8.J):bR z8 G0:=
 bif(decide (y.1.2.1<(y.1.1.length:Int))) then
(aU y.1.1 y.1.2.1).bind fun a=>
(f145 ((a.path,()),())).bind fun b=>
(f144 ((y.1.1,b.1.1,()),())).bind fun c=>
 bif(!c.1.1) then
 some (.inr (.inl ((false,()),())))
else
 some (.inl ((y.1.1,(IntKind.i64.wrap (y.1.2.1+(1:Int))),()),()))
else
 some (.inr (.inr ((y.1.1,()),())))
noncomputable def Hj:z8.J->Option (aD G0):=bv Av
theorem ahZ:aY U (an (codeOf Tryz.f90) 1 58) (a' z8 G0 Hj):=bT Cy (by kernel_rfl) ag fun y=>by kernel_rfl
abbrev i90:Shape:=⟨[aK 0 .entry],[],53⟩
abbrev WE:Shape:=⟨[au 2],[],53⟩
noncomputable def f90(a:i90.J):Option WE.J:=
(Hk ((a.1.1,(0:Int),()),())).bind fun b=>
(match b with
|.inl c=>
 some ((c.1.1,()),())
|.inr d=>
(Hj ((d.1.1,(0:Int),()),())).bind fun e=>
(match e with
|.inl f=>
 some ((f.1.1,()),())
|.inr g=>
 some (((decide ((g.1.1.length:Int)<=(16:Int))),()),())))
noncomputable def Cr:aH:=aP aj Tryz.f90 i90 WE [] f90
theorem Jm:aG U 90 Cr:=aS Cy Tryz.func90 (by kernel_rfl) (ba ah0 (ba ahZ ag)) (fun y=>by kernel_rfl) fun a=>by kernel_rfl
theorem aat{ax:Type}{ok l4:Nat->ax->Bool}:∀(xs:List ax) (j:Nat),(∀i x,xs[i]? =some x->ok (j+i) x=l4 (j+i) x)->allI ok j xs=allI l4 j xs:=by
 intro xs;induction xs with
 |nil=>intro j _;rfl
 |cons x r ih=>
  intro j h;simp only[allI];rw[show ok j x=l4 j x from h 0 x rfl,ih (j+1) (fun i y hy=>by have:=h (i+1) y (by simpa using hy);rw[show j+(i+1)=j+1+i by omega] at this;exact this)]
theorem yy{ax:Type}{ok:Nat->ax->Bool}:∀(xs:List ax) (j:Nat),allI ok j xs=true->∀i x,xs[i]? =some x->ok (j+i) x=true:=by
 intro xs;induction xs with
 |nil=>intro j _ i x h;simp at h
 |cons y r ih=>
  intro j h i x hx;simp only[allI,Bool.and_eq_true] at h;cases i with
  |zero=>simp only[List.getElem?_cons_zero,Option.some.injEq] at hx;subst hx;exact h.1
  |succ i=>have:=ih (j+1) h.2 i x (by simpa using hx);rwa[show j+1+i=j+(i+1) by omega] at this
abbrev io(t:List az):Prop:=cR t.length/\∀e,e∈t->lr e
def uT(t:List az)(i:Nat)(e:az):Bool:=i==0||match t[i-1]? with
 |some q=>Op.bytesLess q.path e.path
 |none=>false
def iE(t:List az)(i:Nat)(e:az):Bool:=eL e&&uT t i e
def dL(t:List az):Bool:=allI (iE t) 0 t&&t.all (fun e=>ko t (je e.path))&&decide (t.length<=16)
theorem IP(i:Nat):decide ((i:Int)>0)=!(i==0):=by
 cases i with
 |zero=>rfl
 |succ i=>simp
theorem xZ(a)(hs:io a.1.1):f90 a=some ((dL a.1.1,()),()):=by
 obtain⟨⟨t,u⟩,b5⟩:=a;obtain⟨hl,he⟩:=hs;have hl:t.length<=2097152:=hl;have key:Hk ((t,((0:Int),())),())=some (bif allI (iE t) 0 t then .inr ((t,()),()) else .inl ((false,()),())):=by
  refine fZ Aw t (fun i=>((t,((i:Int),())),())) _ _ _ (fun i x hx=>?_) ?_
  ·have hi:=cS hx;have hw:ap i:=by unfold ap;omega
   have hb:=he x (List.mem_of_getElem? hx);simp only[Aw,b8 hi,cond_true,Gy,bX,hx,Option.bind_some];rw[abT _ hb.1 hb.2];simp only[Option.bind_some,iE,IP];cases eL x with
   |false=>rfl
   |true=>
    simp only[Bool.not_true,cond_false,Bool.true_and,uT];cases i with
    |zero=>simp only[beq_self_eq_true,Bool.not_true,cond_false,Option.bind_some,Bool.true_or,cond_true,bS hw]
    |succ i=>
     have h0:(i+1==0)=false:=rfl;have j_:i<t.length:=by omega
     obtain⟨q,ar⟩:∃q,t[i]? =some q:=⟨t[i],List.getElem?_eq_getElem j_⟩;simp only[h0,Bool.not_false,cond_true,xt (i:=i) (by unfold ap;omega),bX,ar,hx,Option.bind_some,Bool.false_or,Nat.add_sub_cancel]
     cases Op.bytesLess q.path x.path with
     |false=>rfl
     |true=>simp only[Bool.not_true,cond_false,cond_true,bS hw]
  ·simp only[Aw,dh,cond_false]
 have T8:Hj ((t,((0:Int),())),())=some (bif allI (fun _ e=>ko t (je e.path)) 0 t then .inr ((t,()),()) else .inl ((false,()),())):=by
  refine fZ Av t (fun i=>((t,((i:Int),())),())) _ _ _ (fun i x hx=>?_) ?_
  ·have hi:=cS hx;have hw:ap i:=by unfold ap;omega
   have hb:=he x (List.mem_of_getElem? hx);simp only[Av,b8 hi,cond_true,bX,hx,Option.bind_some];rw[ahG _ hb.1];simp only[Option.bind_some];rw[afK _ hl];simp only[Option.bind_some,bS hw];cases ko t (je x.path)<;>rfl
  ·simp only[Av,dh,cond_false]
 rw[gH] at T8;simp only[f90,key,Option.bind_some,dL];cases allI (iE t) 0 t with
 |false=>rfl
 |true=>
  simp only[cond_true,T8,Option.bind_some,Bool.true_and];cases List.all t (fun e=>ko t (je e.path)) with
  |false=>rfl
  |true=>have:=Bo t.length 16;simp only[cond_true,Bool.true_and];rw[<-this];rfl
theorem O8{t:List az}{i:Nat}{e:az}(he:t[i]? =some e)(h:gm (t.take i))(hl:uT t i e=true):gm (t.take (i+1)):=by
 rw[List.take_add_one,he];unfold gm;refine List.pairwise_append.2 ⟨h,by simp,?_⟩
 intro a ha b hb;have hb:b=e:=by simpa using hb
 subst hb;obtain⟨k,hk⟩:=List.mem_iff_getElem?.1 ha;have Ch:k<i:=by
  have:=cS hk;rw[List.length_take] at this;omega
 unfold uT at hl;have h0:(i==0)=false:=by simp;omega
 rw[h0,Bool.false_or] at hl;split at hl
 ·rename_i q ar;by_cases hkl:k=i-1
  ·have:t[k]? =some a:=by rw[List.getElem?_take,if_pos Ch] at hk;exact hk
   rw[hkl,ar] at this;cases this;exact hl
  ·have n4:(t.take i)[i-1]? =some q:=by rw[List.getElem?_take,if_pos (by omega)];exact ar
   have:=List.pairwise_iff_getElem.1 h k (i-1) (cS hk) (cS n4) (by omega)
   rw[(List.getElem?_eq_some_iff.1 hk).2,(List.getElem?_eq_some_iff.1 n4).2] at this;exact ur _ _ _ this hl
 ·cases hl
theorem Rk{t:List az}(h:allI (iE t) 0 t=true):gm t:=by
 have:∀i,i<=t.length->gm (t.take i):=by
  intro i;induction i with
  |zero=>intro _;simp[gm]
  |succ i ih=>
   intro hi;have he:t[i]? =some t[i]:=List.getElem?_eq_getElem hi;have:=yy t 0 h i _ he;rw[Nat.zero_add] at this;simp only[iE,Bool.and_eq_true] at this;exact O8 he (ih (by omega)) this.2
 have:=this t.length (Nat.le_refl _);rwa[List.take_length] at this
theorem abr{t:List az}{i:Nat}{e:az}{p:F}(ha:gm t)(he:t[i]? =some e)(hp:Op.bytesLess p e.path=true):ko (t.take i) p=ko t p:=by
 have hi:=cS he;have h1:=lD (p:=p) ha i e he;rw[ahh hp] at h1;have hle:b6 t p<=i:=by
  have:¬i<b6 t p:=by simpa using h1.symm
  omega
 have mI:b6 (t.take i) p=b6 t p:=by
  by_cases hlt:b6 t p=i
  ·have hlen:(t.take i).length=i:=by rw[List.length_take];omega
   have h2:=rX (t.take i) p;rw[hlen] at h2;by_cases h3:b6 (t.take i) p<i
   ·obtain⟨q,ar⟩:∃q,(t.take i)[b6 (t.take i) p]? =some q:=⟨_,List.getElem?_eq_getElem (by rw[hlen];exact h3)⟩
    have aw:=lD (p:=p) (ha.take i) _ q ar;have n4:t[b6 (t.take i) p]? =some q:=by rw[List.getElem?_take,if_pos h3] at ar;exact ar
    have bk:=lD (p:=p) ha _ q n4;rw[aw] at bk;have:decide (b6 (t.take i) p<b6 (t.take i) p)=false:=by simp
    rw[this] at bk;have:¬b6 (t.take i) p<b6 t p:=by simpa using bk.symm
    omega
   ·omega
  ·have hlt:b6 t p<i:=by omega
   obtain⟨q,ar⟩:∃q,t[b6 t p]? =some q:=⟨_,List.getElem?_eq_getElem (by omega)⟩
   have n4:(t.take i)[b6 t p]? =some q:=by rw[List.getElem?_take,if_pos hlt];exact ar
   have aw:=lD (p:=p) ha _ q ar;have bk:=lD (p:=p) (ha.take i) _ q n4;have c_:decide (b6 t p<b6 t p)=false:=by simp
   rw[aw,c_] at bk;have cp:¬b6 t p<b6 (t.take i) p:=by simpa using bk.symm
   by_cases iw:b6 (t.take i) p<b6 t p
   ·obtain⟨r,hr⟩:∃r,t[b6 (t.take i) p]? =some r:=⟨_,List.getElem?_eq_getElem (by omega)⟩
    have dp:(t.take i)[b6 (t.take i) p]? =some r:=by rw[List.getElem?_take,if_pos (by omega)];exact hr
    have h8:=lD (p:=p) ha _ r hr;have hQ:=lD (p:=p) (ha.take i) _ r dp;have Lc:decide (b6 (t.take i) p<b6 (t.take i) p)=false:=by simp
    rw[h8,Lc] at hQ;have:¬b6 (t.take i) p<b6 t p:=by simpa using hQ
    omega
   ·omega
 unfold ko;rw[mI];congr 1
 by_cases hlt:b6 t p<i
 ·rw[List.getElem?_take,if_pos hlt]
 ·have:b6 t p=i:=by omega
  rw[this,he,List.getElem?_take,if_neg (by omega)]
  have:(e.path==p)=false:=by
   cases h:(e.path==p) with
   |false=>rfl
   |true=>rw[eq_of_beq h,AO] at hp;cases hp
  simp[this]
def k4(t:List az)(p:F):Bool:=ko t (bif f_ p then je p else [])
theorem ZN(a)(hs:cR a.1.1.length)(hp:cR a.1.2.1.length)(ha:gm a.1.1):f153 a=some ((k4 a.1.1 a.1.2.1,()),()):=by
 obtain⟨⟨t,p,u⟩,b5⟩:=a;have e1:=adZ ((p,()),()) hp;have e2:=L8 ((t,((bif f_ p then je p else []),())),()) hs ha
 simp only[f153,e1,e2,Option.bind_some,k4,ko,jW,bX];generalize(bif f_ p then je p else [])=up
 cases (up==[]) with
 |true=>rfl
 |false=>
  cases aq:t[b6 t up]? with
  |none=>rfl
  |some e=>simp only[cond_false,cond_true,Option.bind_some,Bool.false_or];cases (e.path==up)<;>rfl
theorem ab8(t:List az):dL t=(decide (t.length<=16)&&allI (fun i e=>iE t i e&&k4 (t.take i) e.path) 0 t):=by
 unfold dL;rw[Fb];cases h:allI (iE t) 0 t with
 |false=>simp
 |true=>
  have ha:=Rk h;have:allI (fun i e=>k4 (t.take i) e.path) 0 t=t.all (fun e=>ko t (je e.path)):=by
   rw[<-gH _ 0 t];refine aat t 0 (fun i e he=>?_)
   rw[Nat.zero_add];have fv:=yy t 0 h i e he;rw[Nat.zero_add] at fv;have apX:f_ e.path=true:=by
    unfold iE eL at fv;simp only[Bool.and_eq_true] at fv;exact fv.1.1
   unfold k4;rw[apX,cond_true];cases hu:(je e.path==[]) with
   |true=>unfold ko;rw[hu];rfl
   |false=>exact abr ha he (ad3 hu)
  rw[this];simp only[Bool.true_and];rw[Bool.and_comm]
theorem pF(a)(hs:io a.1.1):f105 a=some ((dL a.1.1,()),()):=by
 obtain⟨⟨t,u⟩,b5⟩:=a;obtain⟨hl,he⟩:=hs;have hl:t.length<=2097152:=hl;have key:Gs ((t,(t,((t.length:Int),((0:Int),())))),())=some (bif allI (fun i e=>iE t i e&&k4 (t.take i) e.path) 0 t then .inr ((),()) else .inl ((false,()),())):=by
  have:=lF zK t (fun i (_:Unit)=>((t,(t,((t.length:Int),((i:Int),())))),())) (fun i e _=>some (bif iE t i e&&k4 (t.take i) e.path then .inl () else .inr ((.inl ((false,()),())):aD uv))) (fun _=>(.inr ((),()):aD uv))
   (fun i _=>gm (t.take i)) () (by simp[gm]) (fun i x _ hx dq=>?_) (fun _ _=>?_)
  ·exact this.trans (xe (fun i e=>iE t i e&&k4 (t.take i) e.path) (fun _ s=>s) _ _ t 0 ())
  ·have hi:=cS hx;have hw:ap i:=by unfold ap;omega
   have hb:=he x (List.mem_of_getElem? hx);refine⟨?_,fun aC af=>?_⟩
   ·have pe:=ZN ((t.take i,(x.path,())),()) (show(t.take i).length<=2097152 by rw[List.length_take];omega) hb.1 dq
    simp only[zK,b8 hi,cond_true,bX,hx,Option.bind_some,D6];rw[ab0 _ hb.1 hb.2];simp only[Option.bind_some,iE,IP];cases eL x with
    |false=>rfl
    |true=>
     simp only[Bool.not_true,cond_false,Bool.true_and,uT];cases i with
     |zero=>
      have eb:br t 0 0=some (t.take 0):=gI (b:=0) (Nat.zero_le _);have eb:br t 0 ((0:Nat):Int)=some (t.take 0):=eb;simp only[beq_self_eq_true,Bool.not_true,cond_false,eb,Option.bind_some,pe,Bool.true_or,Bool.true_and];cases k4 (t.take 0) x.path with
      |false=>rfl
      |true=>simp only[Bool.not_true,cond_false,cond_true,bS hw];rfl
     |succ i=>
      have h0:(i+1==0)=false:=rfl;have j_:i<t.length:=by omega
      obtain⟨q,ar⟩:∃q,t[i]? =some q:=⟨t[i],List.getElem?_eq_getElem j_⟩;have eb:br t 0 ((i+1:Nat):Int)=some (t.take (i+1)):=gI (by omega)
      simp only[h0,Bool.not_false,cond_true,xt (i:=i) (by unfold ap;omega),bX,ar,hx,Option.bind_some,Bool.false_or,Nat.add_sub_cancel]
      cases Op.bytesLess q.path x.path with
      |false=>rfl
      |true=>
       simp only[Bool.not_true,cond_false,cond_true,eb,Option.bind_some,pe,Bool.true_and];cases k4 (t.take (i+1)) x.path with
       |false=>rfl
       |true=>simp only[Bool.not_true,cond_false,cond_true,bS hw];rfl
   ·simp only[Option.some.injEq] at af;cases ar:(iE t i x&&k4 (t.take i) x.path) with
    |false=>rw[ar] at af;cases af
    |true=>
     simp only[Bool.and_eq_true] at ar;have:=ar.1;simp only[iE,Bool.and_eq_true] at this;exact O8 hx dq this.2
  ·simp only[zK,dh,cond_false]
 have wB:decide ((t.length:Int)>16)=!decide (t.length<=16):=by by_cases h:t.length<=16<;>simp only[h,decide_true,decide_false,Bool.not_true,Bool.not_false,decide_eq_true_eq,decide_eq_false_iff_not]<;>omega
 simp only[f105,wB,key,Option.bind_some];rw[ab8];cases decide (t.length<=16)<;>cases allI (fun i e=>iE t i e&&k4 (t.take i) e.path) 0 t<;>rfl
abbrev i202:Shape:=⟨[aK 0 .entry],[],6⟩
abbrev S4:Shape:=⟨[bc 2 3000128],[bb 3000128 .entry 2 0],6⟩
noncomputable def f202(a:i202.J):Option S4.J:=
(cy 48 ([]:List az) a.1.1).bind fun b=>
 some (((),()),b,())
noncomputable def U4:aH:=aP aj Tryz.f202 i202 S4 [] f202
theorem aky:aG U 202 U4:=aS g0 Tryz.func202 (by kernel_rfl) ag (fun y=>by kernel_rfl) fun a=>by kernel_rfl
noncomputable abbrev am5:bi:=[(90,Cr),(194,I3),(202,U4)]
theorem Je:a_ U (bg aj am5):=bf ⟨Jm,z194,aky,⟨⟩⟩
abbrev Nx:Shape:=⟨[aK 1 .entry,bc 6 3000384,ae 7,ae 8,au 9],[bb 3000384 .entry 6 0],69⟩
abbrev Nd:List aO:=[(.norm,⟨[aK 1 .entry,bc 6 3000384,ae 7,ae 8,au 9,au 28,au 29,au 47],[bb 3000384 .entry 6 0],69⟩)]
noncomputable def D2(y:Nx.J):Option (aD Nd):=
 bif y.1.2.2.2.2.1 then
(a8 y.2.1.length y.1.2.2.2.1).bind fun a=>
(y.2.1[a]?).bind fun b=>
 bif(b.kind !=(1:Int)) then
 some ((y.1.1,(),y.1.2.2.1,y.1.2.2.2.1,y.1.2.2.2.2.1,y.1.2.2.2.2.1,true,true,()),y.2.1,())
else
(aU y.1.1 y.1.2.2.1).bind fun c=>
(a8 y.2.1.length y.1.2.2.2.1).bind fun d=>
(y.2.1[d]?).bind fun e=>
 some ((y.1.1,(),y.1.2.2.1,y.1.2.2.2.1,y.1.2.2.2.2.1,y.1.2.2.2.2.1,true,(!((c.path==e.path)&&((c.kind==e.kind)&&((c.mode==e.mode)&&(c.text==e.text))))),()),y.2.1,())
else
 some ((y.1.1,(),y.1.2.2.1,y.1.2.2.2.1,y.1.2.2.2.2.1,y.1.2.2.2.2.1,false,false,()),y.2.1,())
theorem acE:aY U (an (da (an (codeOf Tryz.f159) 1 58)) 116 7460) (a' Nx Nd D2):=cW Je (by kernel_rfl) ag fun y=>by kernel_rfl
abbrev uw:Shape:=⟨[aK 1 .entry,bc 6 3000384,ae 7],[bb 3000384 .entry 6 0],69⟩
abbrev ox:List aO:=[(.ret,⟨[bc 4 3000256,au 5],[bb 3000256 .entry 4 0],69⟩),(.exit 0,⟨[bc 6 3000384],[bb 3000384 .entry 6 0],69⟩)]
noncomputable def zx(y:uw.J):bR uw ox:=
 bif(decide (y.1.2.2.1<(y.1.1.length:Int))) then
(aU y.1.1 y.1.2.2.1).bind fun a=>
(f194 ((y.2.1,a.path,()),())).bind fun b=>
(D2 ((y.1.1,(),y.1.2.2.1,b.1.1,b.1.2.1,()),y.2.1,())).bind fun c=>
 bif c.1.2.2.2.2.2.2.2.1 then
 some (.inr (.inl (((),false,()),([]:List az),())))
else
 bif(!c.1.2.2.2.2.1) then
(br c.2.1 (0:Int) c.1.2.2.2.1).bind fun d=>
(cy 48 ([]:List az) d).bind fun e=>
(aU c.1.1 c.1.2.2.1).bind fun f=>
(cy 48 e ([f]:List az)).bind fun g=>
(br c.2.1 c.1.2.2.2.1 (c.2.1.length:Int)).bind fun h=>
(cy 48 g h).bind fun i=>
 some (.inl ((c.1.1,(),(IntKind.i64.wrap (c.1.2.2.1+(1:Int))),()),i,()))
else
 some (.inl ((c.1.1,(),(IntKind.i64.wrap (c.1.2.2.1+(1:Int))),()),c.2.1,()))
else
 some (.inr (.inr (((),()),y.2.1,())))
noncomputable def Gd:uw.J->Option (aD ox):=bv zx
theorem ags:aY U (an (codeOf Tryz.f159) 1 58) (a' uw ox Gd):=bT Je (by kernel_rfl) (ba acE ag) fun y=>by kernel_rfl
abbrev i159:Shape:=⟨[aK 0 .entry,aK 1 .entry],[],69⟩
abbrev Tu:Shape:=⟨[bc 4 3000256,au 5],[bb 3000256 .entry 4 0],69⟩
noncomputable def f159(a:i159.J):Option Tu.J:=
(f202 ((a.1.1,()),())).bind fun b=>
(Gd ((a.1.2.1,(),(0:Int),()),b.2.1,())).bind fun c=>
(match c with
|.inl d=>
 some (((),d.1.2.1,()),d.2.1,())
|.inr e=>
(f90 ((e.2.1,()),())).bind fun f=>
 some (((),f.1.1,()),e.2.1,()))
noncomputable def Vr:aH:=aP aj Tryz.f159 i159 Tu [] f159
theorem z159:aG U 159 Vr:=aS Je Tryz.func159 (by kernel_rfl) (ba ags ag) (fun y=>by kernel_rfl) fun a=>by kernel_rfl
noncomputable abbrev arG:bi:=[(87,KJ),(88,KI),(89,X4),(90,Cr)]
theorem ar6:a_ U (bg aj arG):=bf ⟨z87,Wo,aog,Jm,⟨⟩⟩
abbrev i50:Shape:=⟨[cC 0 [ai,ai,c4 .need,c4 .entry]],[],23⟩
abbrev WW:Shape:=⟨[au 2],[],23⟩
noncomputable def f50(a:i50.J):Option WW.J:=
(f87 ((a.1.1.1,()),())).bind fun b=>
 bif b.1.1 then
(f88 ((a.1.1.2.1,()),())).bind fun c=>
 bif c.1.1 then
(f89 ((a.1.1.1,a.1.1.2.2.1,()),())).bind fun d=>
 bif d.1.1 then
(f90 ((a.1.1.2.2.2.1,()),())).bind fun e=>
 some ((e.1.1,()),())
else
 some ((false,()),())
else
 some ((false,()),())
else
 some ((false,()),())
noncomputable def KK:aH:=aP aj Tryz.f50 i50 WW [] f50
theorem Wp:aG U 50 KK:=aS ar6 Tryz.func50 (by kernel_rfl) ag (fun y=>by kernel_rfl) fun a=>by kernel_rfl
noncomputable abbrev arF:bi:=[(99,KH),(100,BF),(101,Rv),(103,Ru),(105,vL)]
theorem YD:a_ U (bg aj arF):=bf ⟨Wn,H7,ahC,ahB,z105,⟨⟩⟩
abbrev QE:Shape:=⟨[aM 1 1 0],[aL 1 [ai,ai,c4 .need,c4 .entry]],36⟩
abbrev Qv:List aO:=[(.norm,⟨[aM 1 1 0,au 18],[aL 1 [ai,ai,c4 .need,c4 .entry]],36⟩)]
noncomputable def HC(y:QE.J):Option (aD Qv):=
(f99 ((y.2.1.1,()),())).bind fun a=>
 bif(!(!a.1.1)) then
(f100 ((y.2.1.2.1,()),())).bind fun b=>
 bif(!(!b.1.1)) then
 some (((),(decide ((y.2.1.2.2.1.length:Int)>(6:Int))),()),(y.2.1.1,y.2.1.2.1,y.2.1.2.2.1,y.2.1.2.2.2.1,()),())
else
 some (((),true,()),(y.2.1.1,y.2.1.2.1,y.2.1.2.2.1,y.2.1.2.2.2.1,()),())
else
 some (((),true,()),(y.2.1.1,y.2.1.2.1,y.2.1.2.2.1,y.2.1.2.2.2.1,()),())
theorem aib:aY U (an (codeOf Tryz.f55) 1 12) (a' QE Qv HC):=cW YD (by kernel_rfl) ag fun y=>by kernel_rfl
abbrev i55:Shape:=⟨[cC 0 [ai,ai,c4 .need,c4 .entry]],[],36⟩
abbrev WV:Shape:=⟨[au 2],[],36⟩
noncomputable def f55(a:i55.J):Option WV.J:=
(HC (((),()),(a.1.1.1,a.1.1.2.1,a.1.1.2.2.1,a.1.1.2.2.2.1,()),())).bind fun b=>
 bif b.1.2.1 then
 some ((false,()),())
else
(AL ((b.2.1.2.2.1,(),()),())).bind fun c=>
 bif c.1.1 then
(AK ((b.2.1.2.2.1,(),([b.2.1.1]:List F),()),())).bind fun d=>
 bif(!d.1.1) then
(f105 ((b.2.1.2.2.2.1,()),())).bind fun e=>
 some ((e.1.1,()),())
else
 some ((false,()),())
else
 some ((false,()),())
noncomputable def Cv:aH:=aP aj Tryz.f55 i55 WV [] f55
theorem Jp:aG U 55 Cv:=aS YD Tryz.func55 (by kernel_rfl) (ba aib ag) (fun y=>by kernel_rfl) fun a=>by kernel_rfl
noncomputable abbrev aj6:bi:=[(55,Cv)]
theorem Sb:a_ U (bg aj aj6):=bf ⟨Jp,⟨⟩⟩
abbrev x3:Shape:=⟨[(1,.ak (.fn 55 [])),aK 7 .pack,ae 8,ae 9],[],18⟩
abbrev Ei:List aO:=[(.ret,⟨[au 4],[],18⟩),(.exit 0,⟨[],[],18⟩)]
noncomputable def yp(y:x3.J):bR x3 Ei:=
 bif(decide (y.1.2.2.2.1<y.1.2.2.1)) then
(aU y.1.2.1 y.1.2.2.2.1).bind fun a=>
(f55 (((a.name,a.aV,a.bl,a.bQ,()),()),())).bind fun b=>
 bif(!b.1.1) then
 some (.inr (.inl ((false,()),())))
else
 some (.inl (((),y.1.2.1,y.1.2.2.1,(IntKind.i64.wrap (y.1.2.2.2.1+(1:Int))),()),()))
else
 some (.inr (.inr ((),())))
noncomputable def EK:x3.J->Option (aD Ei):=bv yp
theorem aeq:aY U (an (codeOf Tryz.f54) 1 26) (a' x3 Ei EK):=bT Sb (by kernel_rfl) ag fun y=>by kernel_rfl
abbrev RW:Shape:=⟨[aK 0 .pack,(1,.ak (.fn 55 []))],[],18⟩
abbrev RN:Shape:=⟨[au 4],[],18⟩
noncomputable def A8(a:RW.J):Option RN.J:=
(EK (((),a.1.1,(a.1.1.length:Int),(0:Int),()),())).bind fun b=>
(match b with
|.inl c=>
 some ((c.1.1,()),())
|.inr d=>
 some ((true,()),()))
noncomputable def Sa:aH:=aP aj Tryz.f54 RW RN [] A8
theorem ai9:aG U 54 Sa:=aS Sb Tryz.func54 (by kernel_rfl) (ba aeq ag) (fun y=>by kernel_rfl) fun a=>by kernel_rfl
abbrev Af:Shape:=⟨[aK 0 .pack,ae 3],[],22⟩
abbrev G7:List aO:=[(.ret,⟨[au 2],[],22⟩),(.exit 0,⟨[],[],22⟩)]
noncomputable def AD(y:Af.J):bR Af G7:=
 bif(decide (y.1.2.1<(y.1.1.length:Int))) then
(aU y.1.1 (IntKind.i64.wrap (y.1.2.1-(1:Int)))).bind fun a=>
(aU y.1.1 y.1.2.1).bind fun b=>
 bif(!(Op.bytesLess a.name b.name)) then
 some (.inr (.inl ((false,()),())))
else
 some (.inl ((y.1.1,(IntKind.i64.wrap (y.1.2.1+(1:Int))),()),()))
else
 some (.inr (.inr ((),())))
noncomputable def Hr:Af.J->Option (aD G7):=bv AD
theorem aia:aY U (an (codeOf Tryz.f56) 1 26) (a' Af G7 Hr):=bT g0 (by kernel_rfl) ag fun y=>by kernel_rfl
abbrev i56:Shape:=⟨[aK 0 .pack],[],22⟩
abbrev WU:Shape:=⟨[au 2],[],22⟩
noncomputable def f56(a:i56.J):Option WU.J:=
(Hr ((a.1.1,(1:Int),()),())).bind fun b=>
(match b with
|.inl c=>
 some ((c.1.1,()),())
|.inr d=>
 some ((true,()),()))
noncomputable def Ye:aH:=aP aj Tryz.f56 i56 WU [] f56
theorem aop:aG U 56 Ye:=aS g0 Tryz.func56 (by kernel_rfl) (ba aia ag) (fun y=>by kernel_rfl) fun a=>by kernel_rfl
abbrev kc(p:aW):Prop:=cR p.name.length/\cR p.aV.length/\s_ p.bl/\io p.bQ
abbrev fS(ps:List aW):Prop:=cR ps.length/\∀p,p∈ps->kc p
def cB(p:aW):Bool:=iy p.name&&d_ p.aV&&p2 p.name p.bl&&dL p.bQ
theorem Ef(a)(hb:kc ⟨a.1.1.1,a.1.1.2.1,a.1.1.2.2.1,a.1.1.2.2.2.1⟩):f50 a=some ((cB ⟨a.1.1.1,a.1.1.2.1,a.1.1.2.2.1,a.1.1.2.2.2.1⟩,()),()):=by
 obtain⟨⟨⟨n,v,ns,t,u⟩,b5⟩,j8⟩:=a;obtain⟨h1,h2,h3,aw⟩:=hb;have h1:n.length<=2097152:=h1;have e1:=Ob ((n,()),()) (show n.length<=1099511627776 by omega)
 have e2:=L9 ((v,()),()) h2;have bp:=abO ((n,(ns,())),()) h3 h1;have c_:=xZ ((t,()),()) aw;simp only[f50,e1,e2,bp,c_,Option.bind_some,cB];cases iy n<;>cases d_ v<;>cases p2 n ns<;>rfl
theorem xx(a)(hb:kc ⟨a.1.1.1,a.1.1.2.1,a.1.1.2.2.1,a.1.1.2.2.2.1⟩):f55 a=some ((cB ⟨a.1.1.1,a.1.1.2.1,a.1.1.2.2.1,a.1.1.2.2.2.1⟩,()),()):=by
 obtain⟨⟨⟨n,v,ns,t,u⟩,b5⟩,j8⟩:=a;obtain⟨h1,h2,h3,aw⟩:=hb;have h1:n.length<=2097152:=h1;have e1:=LU ((n,()),()) (show n.length<=1099511627776 by omega)
 have e2:=CY ((v,()),()) h2;have bp:=ab2 ((ns,((),())),()) h3;have c_:=pF ((t,()),()) aw;have fp:=Z7 ((ns,((),(([n]:List F),()))),()) h3 (Nat.le_refl _);have cp:decide ((ns.length:Int)>6)=!decide (ns.length<=6):=by by_cases h:ns.length<=6<;>simp only[h,decide_true,decide_false,Bool.not_true,Bool.not_false,decide_eq_true_eq,decide_eq_false_iff_not]<;>omega
 have Z:jA [] (n::ns.map (·.name))=jA [n] (ns.map (·.name)):=by simp[jA]
 simp only[f55,HC,e1,e2,Option.bind_some,cB,p2,Z,cp,Bool.not_not];cases iy n with
 |false=>rfl
 |true=>
  cases d_ v with
  |false=>rfl
  |true=>
   cases decide (ns.length<=6) with
   |false=>simp only[cond_true,Bool.not_false,Option.bind_some,Bool.and_false,Bool.false_and]
   |true=>
    simp only[cond_true,Bool.not_true,cond_false,Option.bind_some,bp,fp,c_,Bool.true_and,Bool.and_true];cases List.all ns du<;>cases jA [n] (ns.map (·.name))<;>rfl
theorem ab1(a)(hs:fS a.1.1):A8 a=some ((a.1.1.all cB,()),()):=by
 obtain⟨⟨ps,u⟩,b5⟩:=a;obtain⟨hl,hn⟩:=hs;have hl:ps.length<=2097152:=hl;have key:EK (((),(ps,((ps.length:Int),((0:Int),())))),())=some (bif allI (fun _ n=>cB n) 0 ps then .inr ((),()) else .inl ((false,()),())):=by
  refine fZ yp ps (fun i=>(((),(ps,((ps.length:Int),((i:Int),())))),())) _ _ _ (fun i x hx=>?_) ?_
  ·have hi:=cS hx;have hw:ap i:=by unfold ap;omega
   have hb:=hn x (List.mem_of_getElem? hx);simp only[yp,b8 hi,cond_true,bX,hx,Option.bind_some];rw[xx _ hb];simp only[Option.bind_some,bS hw];cases cB x<;>rfl
  ·simp only[yp,dh,cond_false]
 rw[gH] at key;simp only[A8,key,Option.bind_some];cases List.all ps cB<;>rfl
def nI(ps:List aW)(i:Nat)(x:aW):Bool:=match ps[i]? with
 |some q=>Op.bytesLess q.name x.name
 |none=>false
def lm(ps:List aW):Bool:=allI (nI ps) 0 ps.tail
theorem ZM(a)(hs:cR a.1.1.length):f56 a=some ((lm a.1.1,()),()):=by
 obtain⟨⟨ps,u⟩,b5⟩:=a;have hs:ps.length<=2097152:=hs;have key:Hr ((ps,((1:Int),())),())=some (bif allI (nI ps) 0 ps.tail then .inr ((),()) else .inl ((false,()),())):=by
  refine fZ AD ps.tail (fun i=>((ps,(((i+1:Nat):Int),())),())) _ _ _ (fun i x hx=>?_) ?_
  ·have qF:ps[i+1]? =some x:=by rw[List.getElem?_tail] at hx;exact hx
   have hi:=cS qF;have hw:ap (i+1):=by unfold ap;omega
   obtain⟨q,ar⟩:∃q,ps[i]? =some q:=⟨ps[i],List.getElem?_eq_getElem (by omega)⟩
   simp only[AD,b8 hi,cond_true,xt (i:=i) (by unfold ap;omega),bX,ar,qF,Option.bind_some,bS hw,nI]
   cases Op.bytesLess q.name x.name<;>rfl
  ·have:decide (((ps.tail.length+1:Nat):Int)<(ps.length:Int))=false:=by
    simp only[decide_eq_false_iff_not,List.length_tail];omega
   simp only[AD,this,cond_false]
 simp only[f56,key,Option.bind_some,lm];cases allI (nI ps) 0 ps.tail<;>rfl
def mf(a b:az):Bool:=a.path==b.path&&(a.kind==b.kind&&(a.mode==b.mode&&a.text==b.text))
def nS(e q:az):Bool:=e.kind !=1||!mf e q
theorem afh(a b:az):mf a b=mf b a:=by
 unfold mf;have h1:(a.path==b.path)=(b.path==a.path):=BEq.comm;have h2:(a.kind==b.kind)=(b.kind==a.kind):=BEq.comm;have h3:(a.mode==b.mode)=(b.mode==a.mode):=BEq.comm;have aw:(a.text==b.text)=(b.text==a.text):=BEq.comm;rw[h1,h2,h3,aw]
theorem ahe(e q:az):nS e q=(q.kind !=1||!mf e q):=by
 unfold nS;cases h:mf e q with
 |false=>simp
 |true=>
  unfold mf at h;simp only[Bool.and_eq_true] at h;rw[show e.kind=q.kind from eq_of_beq h.2.1]
def kn(t:List az)(k:Nat)(e:az):List az:=t.take k++[e]++t.drop k
def hF(out:List az):List az->Option (List az)
 |[]=>some out
 |e::r=>match out[b6 out e.path]? with
  |some q=>bif q.path==e.path then(bif nS e q then none else hF out r) else hF (kn out (b6 out e.path) e) r
  |none=>hF (kn out (b6 out e.path) e) r
theorem NT(t:List az)(k:Nat)(e:az)(h:k<=t.length):(kn t k e).length=t.length+1:=by
 unfold kn;simp only[List.length_append,List.length_take,List.length_cons,List.length_nil,List.length_drop];omega
theorem NS{t:List az}{k:Nat}{e x:az}(h:x∈kn t k e):x=e\/x∈t:=by
 unfold kn at h;rcases List.mem_append.1 h with h|h
 ·rcases List.mem_append.1 h with h|h
  ·exact .inr (List.mem_of_mem_take h)
  ·exact .inl (by simpa using h)
 ·exact .inr (List.mem_of_mem_drop h)
def ie(out:List az)(e:az):Option (List az):=match out[b6 out e.path]? with
 |some q=>bif q.path==e.path then(bif nS e q then none else some out) else some (kn out (b6 out e.path) e)
 |none=>some (kn out (b6 out e.path) e)
theorem xo(out:List az)(e:az)(r:List az):hF out (e::r)=(ie out e).bind fun B=>hF B r:=by
 unfold ie;rw[hF];cases out[b6 out e.path]? with
 |none=>rfl
 |some q=>
  simp only;cases (q.path==e.path) with
  |false=>rfl
  |true=>cases nS e q<;>rfl
theorem xA{out B:List az}{e:az}(h:ie out e=some B):B.length<=out.length+1:=by
 unfold ie at h;split at h
 ·rename_i q ar;cases hp:(q.path==e.path) with
  |true=>
   rw[hp] at h;cases hc:nS e q with
   |true=>rw[hc] at h;cases h
   |false=>rw[hc] at h;cases h;omega
  |false=>rw[hp] at h;cases h;rw[NT _ _ _ (rX _ _)];omega
 ·cases h;rw[NT _ _ _ (rX _ _)];omega
theorem DE{out B:List az}{e x:az}(h:ie out e=some B)(hx:x∈B):x=e\/x∈out:=by
 unfold ie at h;split at h
 ·rename_i q ar;cases hp:(q.path==e.path) with
  |true=>
   rw[hp] at h;cases hc:nS e q with
   |true=>rw[hc] at h;cases h
   |false=>rw[hc] at h;cases h;exact .inr hx
  |false=>rw[hp] at h;cases h;exact NS hx
 ·cases h;exact NS hx
theorem ahl{t:List az}{e:az}(ha:gm t)(hn:jW t e.path=false):gm (kn t (b6 t e.path) e):=by
 have Ui:∀a,a∈t.take (b6 t e.path)->Op.bytesLess a.path e.path=true:=by
  intro a h;obtain⟨k,hk⟩:=List.mem_iff_getElem?.1 h;have Xz:k<b6 t e.path:=by have:=cS hk;rw[List.length_take] at this;omega
  have wm:t[k]? =some a:=by rw[List.getElem?_take,if_pos Xz] at hk;exact hk
  rw[lD ha k a wm];simpa using Xz
 have R0:∀a,a∈t.drop (b6 t e.path)->Op.bytesLess e.path a.path=true:=by
  intro a h;obtain⟨k,hk⟩:=List.mem_iff_getElem?.1 h;rw[List.getElem?_drop] at hk;have h1:=lD (p:=e.path) ha _ a hk;have h2:Op.bytesLess a.path e.path=false:=by rw[h1];simp
  refine aiL _ _ h2 ?_
  cases ar:(a.path==e.path) with
  |false=>rfl
  |true=>
   exfalso
   cases k with
   |zero=>
    unfold jW at hn;rw[Nat.add_zero] at hk;rw[hk] at hn;simp only[ar] at hn;cases hn
   |succ k=>
    have hlt:=cS hk;obtain⟨q,J0⟩:∃q,t[b6 t e.path]? =some q:=⟨_,List.getElem?_eq_getElem (by omega)⟩
    have h3:=List.pairwise_iff_getElem.1 ha (b6 t e.path) (b6 t e.path+(k+1)) (cS J0) hlt (by omega)
    rw[(List.getElem?_eq_some_iff.1 J0).2,(List.getElem?_eq_some_iff.1 hk).2] at h3;have aw:=lD (p:=e.path) ha _ q J0;rw[<-eq_of_beq ar,h3] at aw;simp at aw
 unfold gm kn;refine List.pairwise_append.2 ⟨List.pairwise_append.2 ⟨ha.take _,by simp,?_⟩,List.Pairwise.sublist (List.drop_sublist _ _) ha,?_⟩
 ·intro a h b hb;have hb:b=e:=by simpa using hb
  subst hb;exact Ui a h
 ·intro a h b hb;rcases List.mem_append.1 h with h|h
  ·exact ur _ _ _ (Ui a h) (R0 b hb)
  ·have h:a=e:=by simpa using h
   subst h;exact R0 b hb
theorem acb{out B:List az}{e:az}(ha:gm out)(h:ie out e=some B):gm B:=by
 unfold ie at h;have hno:∀{b:Bool},jW out e.path=b->b=false->gm (kn out (b6 out e.path) e):=fun h1 h2=>ahl ha (h1.trans h2)
 split at h
 ·rename_i q ar;cases hp:(q.path==e.path) with
  |true=>
   rw[hp] at h;cases hc:nS e q with
   |true=>rw[hc] at h;cases h
   |false=>rw[hc] at h;cases h;exact ha
  |false=>rw[hp] at h;cases h;exact hno (by unfold jW;rw[ar]) hp
 ·rename_i ar;cases h;exact hno (by unfold jW;rw[ar]) rfl
theorem adQ(a)(ha:io a.1.1)(hb:io a.1.2.1)(hl:a.1.1.length+a.1.2.1.length<=2097152):f159 a=
  some (match hF a.1.1 a.1.2.1 with|some out=>(((),(dL out,())),(out,()))|none=>(((),(false,())),(([]:List az),()))):=by
 obtain⟨⟨xs,bd,u⟩,b5⟩:=a;have hl:xs.length+bd.length<=2097152:=hl;have hc:f202 ((xs,()),())=some (((),()),(xs,())):=by
  simp only[f202];rw[d' (by decide) (by unfold ap;simp only[List.length_nil];omega)]
  rfl
 have key:Gd ((bd,((),((0:Int),()))),(xs,()))=_:=lF zx bd (fun i (out:List az)=>((bd,((),((i:Int),()))),(out,())))
  (fun i e out=>some (match ie out e with|some B=>.inl B|none=>.inr ((.inl (((),(false,())),(([]:List az),()))):aD ox))) (fun out=>((.inr (((),()),(out,()))):aD ox))
  (fun i out=>out.length<=xs.length+i/\∀e,e∈out->lr e) xs ⟨Nat.le_refl _,ha.2⟩ (fun i x out hx dq=>?_) (fun out _=>?_)
 ·have fold:∀(r:List az) (k:Nat) (out:List az),eK (fun i e out=>some (match ie out e with|some B=>.inl B|none=>.inr ((.inl (((),(false,())),(([]:List az),()))):aD ox))) (fun out=>((.inr (((),()),(out,()))):aD ox)) k r out=
    some (match hF out r with|some B=>.inr (((),()),(B,()))|none=>.inl (((),(false,())),(([]:List az),()))):=by
   intro r;induction r with
   |nil=>intro k out;rfl
   |cons e r ih=>
    intro k out;rw[xo];simp only[eK];cases ie out e with
    |none=>rfl
    |some B=>simp only[Option.bind_some];exact ih _ _
  have mem:∀(r:List az) (out B:List az),(∀e,e∈r->lr e)->(∀e,e∈out->lr e)->hF out r=some B->B.length<=out.length+r.length/\∀e,e∈B->lr e:=by
   intro r;induction r with
   |nil=>intro out B _ h2 h;cases h;exact⟨Nat.le_refl _,h2⟩
   |cons e r ih=>
    intro out B h1 h2 h;rw[xo] at h;obtain⟨o1,h3,aw⟩:=Option.bind_eq_some_iff.1 h;have bk:=ih o1 B (fun x hx=>h1 x (List.mem_cons_of_mem _ hx)) (fun x hx=>by
     rcases DE h3 hx with rfl|h
     ·exact h1 x List.mem_cons_self
     ·exact h2 x h) aw
    have cp:=xA h3;exact⟨by simp only[List.length_cons];omega,bk.2⟩
  rw[fold] at key;simp only[f159,hc,Option.bind_some,key];cases hj:hF xs bd with
  |none=>rfl
  |some B=>
   have hm:=mem bd xs B hb.2 ha.2 hj;simp only[Option.bind_some];rw[xZ _ ⟨show B.length<=2097152 by omega,hm.2⟩]
   rfl
 ·have hi:=cS hx;have hw:ap i:=by unfold ap;omega
  refine⟨?_,fun aC af=>?_⟩
  ·have ma:=Qp ((out,(x.path,())),()) (show out.length<=2097152 by omega)
   have pe:=rX out x.path;simp only[zx,b8 hi,cond_true,bX,hx,Option.bind_some,ma,D2,jW,ie];have grow:((br out 0 (b6 out x.path:Int)).bind fun alc=>(cy 48 ([]:List az) alc).bind fun alb=>(cy 48 alb ([x]:List az)).bind fun ala=>(br out (b6 out x.path:Int) (out.length:Int)).bind fun ak9=>(cy 48 ala ak9).bind fun ak8=>
     (some (.inl ((bd,((),((IntKind.i64.wrap ((i:Int)+(1:Int))),()))),(ak8,()))):Option (Sum uw.J (aD ox))))=some (.inl ((bd,((),(((i+1:Nat):Int),()))),(kn out (b6 out x.path) x,()))):=by
    have hlen:(out.take (b6 out x.path)).length<=out.length:=by rw[List.length_take];omega
    have atF:(out.drop (b6 out x.path)).length<=out.length:=by rw[List.length_drop];omega
    rw[gI pe,Option.bind_some,d' (by decide) (by unfold ap;simp only[List.length_nil];omega),Option.bind_some,d' (by decide) (by unfold ap;simp only[List.length_nil,List.length_cons,List.nil_append];omega),Option.bind_some,gu pe,Option.bind_some,
     d' (by decide) (by unfold ap;simp only[List.length_append,List.length_nil,List.length_cons,List.nil_append];omega),Option.bind_some,bS hw]
    rfl
   cases ar:out[b6 out x.path]? with
   |none=>simp only[cond_false,Option.bind_some,Bool.not_false,cond_true,bX,hx];exact grow
   |some q=>
    have hin:=fq (cS ar);simp only;cases hp:(q.path==x.path) with
    |false=>simp only[cond_false,Option.bind_some,Bool.not_false,cond_true,bX,hx];exact grow
    |true=>
     have tw:((x.path==q.path)&&((x.kind==q.kind)&&((x.mode==q.mode)&&(x.text==q.text))))=mf x q:=rfl;rw[ahe];simp only[cond_true,hin,ar,Option.bind_some,bX,hx,tw];cases hk:(q.kind !=1) with
     |true=>rfl
     |false=>
      simp only[cond_false,Option.bind_some,Bool.false_or];cases mf x q with
      |false=>rfl
      |true=>simp only[Bool.not_true,cond_false,Option.bind_some,bS hw];rfl
  ·simp only[Option.some.injEq] at af;cases hs:ie out x with
   |none=>rw[hs] at af;cases af
   |some B=>
    rw[hs] at af;cases af;have cp:=xA hs;refine⟨by omega,fun e he=>?_⟩
    rcases DE hs he with rfl|h
    ·exact hb.2 e (List.mem_of_getElem? hx)
    ·exact dq.2 e h
 ·simp only[zx,dh,cond_false]
noncomputable abbrev anB:bi:=[(159,Vr)]
theorem Wi:a_ U (bg aj anB):=bf ⟨z159,⟨⟩⟩
abbrev y_:Shape:=⟨[aK 0 .pack,bc 4 3000256,ae 5],[bb 3000256 .entry 4 0],30⟩
abbrev p0:List aO:=[(.ret,⟨[bc 2 3000128,au 3],[bb 3000128 .entry 2 0],30⟩),(.exit 0,⟨[bc 4 3000256],[bb 3000256 .entry 4 0],30⟩)]
noncomputable def zJ(y:y_.J):bR y_ p0:=
 bif(decide (y.1.2.2.1<(y.1.1.length:Int))) then
(aU y.1.1 y.1.2.2.1).bind fun a=>
(f159 ((y.2.1,a.bQ,()),())).bind fun b=>
 bif(!b.1.2.1) then
 some (.inr (.inl (((),false,()),([]:List az),())))
else
 some (.inl ((y.1.1,(),(IntKind.i64.wrap (y.1.2.2.1+(1:Int))),()),b.2.1,()))
else
 some (.inr (.inr (((),()),y.2.1,())))
noncomputable def Gr:y_.J->Option (aD p0):=bv zJ
theorem agL:aY U (an (codeOf Tryz.f109) 1 58) (a' y_ p0 Gr):=bT Wi (by kernel_rfl) ag fun y=>by kernel_rfl
abbrev i109:Shape:=⟨[aK 0 .pack],[],30⟩
abbrev T1:Shape:=⟨[bc 2 3000128,au 3],[bb 3000128 .entry 2 0],30⟩
noncomputable def f109(a:i109.J):Option T1.J:=
(Gr ((a.1.1,(),(0:Int),()),([]:List az),())).bind fun b=>
(match b with
|.inl c=>
 some (((),c.1.2.1,()),c.2.1,())
|.inr d=>
 some (((),true,()),d.2.1,()))
noncomputable def VV:aH:=aP aj Tryz.f109 i109 T1 [] f109
theorem z109:aG U 109 VV:=aS Wi Tryz.func109 (by kernel_rfl) (ba agL ag) (fun y=>by kernel_rfl) fun a=>by kernel_rfl
abbrev i229:Shape:=⟨[aK 0 .entry],[],8⟩
abbrev Ii:Shape:=⟨[bc 2 3000128],[bb 3000128 .entry 2 0],8⟩
noncomputable def f229(a:i229.J):Option Ii.J:=
 pK (t:=.entry) a.1.1 (some (((),()),([]:List az),())) ((cy 48 ([]:List az) a.1.1).bind fun b=>
 some (((),()),b,()))
noncomputable def UT:aH:=aP aj Tryz.f229 i229 Ii [] f229
theorem z229:aG U 229 UT:=aS g0 Tryz.func229 (by kernel_rfl) ag (fun y=>by kernel_rfl) fun a=>by kernel_rfl
theorem ada(g n c i vb m vc:Nat)(cur vcur:Array Value)(te ve:TypeId)(w:World)(hi:i<n)(hm:0<m)(hroom:n+m<=c)(hc63:c<=9223372036854775807)(hne:vb≠g)
  (hg:w.heap[g]? =some (.cells cur te (0,0))) (hv:w.heap[vb]? =some (.cells vcur ve (0,0))) (hcs:cur.size=c*4) (hvs:m*4<=vcur.size)
  (h1c:∀v∈cur.toList.take (n*4),v.oneCell'=true) (h1v:∀v∈vcur.toList.take (m*4),v.oneCell'=true):
  Calls U 230 #[.slice (some ⟨g,0,none⟩) n c,.int .i64 i,.slice (some ⟨vb,0,none⟩) m vc] w fun e w'=>
   e=.returned (.slice (some ⟨g,0,none⟩) (n+m) c)/\w'=w.drew.setRow g (bG (bG cur.toList ((i+m)*4) ((cur.toList.take (n*4)).drop (i*4))) (i*4) (vcur.toList.take (m*4))).toArray:=by
 have t33:U.underlying 64=some (.slice 178):=by kernel_rfl
 have hsz:(U.info? 178).map (·.size)=some 4:=by kernel_rfl
 have hz1:¬((m:Int)=0):=by omega
 have hz2:¬((i:Int)=(n:Int)):=by omega
 have hov:∀off lb cb,(callFunc 264 #[.slice (some ⟨vb,0,none⟩) m vc,.slice (some ⟨g,off,none⟩) lb cb]).run U w=.ok (.value (.bool false)) w:=fun off lb cb=>by
  rw[run_callFunc_extern Tryz.func264 (by kernel_rfl) (by kernel_rfl) (by kernel_rfl) (e:=Extern.SlicesOverlaps.overlaps #[64,64] #[4]) (by kernel_rfl),
   Lib.run_overlaps_apart w 64 4 178 t33 4 (fun w=>by kernel_rfl) ⟨vb,0,none⟩ ⟨g,off,none⟩ m vc lb cb hne ve te vcur.size cur.size (by simp[World.shape?,hv]) (by simp[World.shape?,hg]) (by omega) (by simp[World.frozen?,hv]) (by simp[World.frozen?,hv])]
  rfl
 have hdl:((cur.toList.take (n*4)).drop (i*4)).length=(n-i)*4:=by simp only[List.length_drop,List.length_take,Array.length_toList,hcs];rw[Nat.min_eq_left (by omega),Nat.sub_mul]
 have hcl:∀j v,(cur.toList.take (n*4))[j]? =some v->w.cell? ⟨g,j,none⟩=some v:=fun j v h=>by
  rw[List.getElem?_take] at h;split at h
  ·simpa[World.cell?,hg] using h
  ·cases h
 have hcv:∀j v,(vcur.toList.take (m*4))[j]? =some v->w.cell? ⟨vb,j,none⟩=some v:=fun j v h=>by
  rw[List.getElem?_take] at h;split at h
  ·simpa[World.cell?,hv] using h
  ·cases h
 have hcp1:∀ty dc sc,(Builtin.copy_ #[64,64] ty #[.slice (some ⟨g,(i+m)*4,none⟩) (n+m-(i+m)) dc,.slice (some ⟨g,i*4,none⟩) (n+m-i) sc]).run U w.drew=
   .ok (goInt (Nat.min (n+m-i) (n+m-(i+m)))) (w.drew.setRow g (bG cur.toList ((i+m)*4) ((cur.toList.take (n*4)).drop (i*4))).toArray):=fun ty dc sc=>
  xl w.drew _ _ ty 178 4 g ((i+m)*4) (n+m-(i+m)) dc ⟨g,i*4,none⟩ (n+m-i) sc cur te _ t33 hsz hg (by rw[hdl];simp only[Nat.min_def];split<;>omega)
   (fun j v hj=>by rw[Addr.add_lit];exact hcl (i*4+j) v (by rwa[List.getElem?_drop] at hj)) (by rw[hdl,hcs];omega) (fun v hv=>h1c v (List.mem_of_mem_drop hv))
 obtain⟨cur1,hcur1⟩:∃cur1,cur1=(bG cur.toList ((i+m)*4) ((cur.toList.take (n*4)).drop (i*4))).toArray:=⟨_,rfl⟩;rw[<-hcur1] at hcp1;have hc1s:cur1.size=c*4:=by rw[hcur1];simp only[bG,List.size_toArray,List.length_append,List.length_drop,List.length_take,Array.length_toList,hcs];omega
 have hcp2:∀(W:World),W.heap=(w.drew.setRow g cur1).heap->∀ty dc,(Builtin.copy_ #[64,64] ty #[.slice (some ⟨g,i*4,none⟩) (n+m-i) dc,.slice (some ⟨vb,0,none⟩) m vc]).run U W=
   .ok (goInt (Nat.min m (n+m-i))) (W.setRow g (bG cur1.toList (i*4) (vcur.toList.take (m*4))).toArray):=fun W hW ty dc=>
  xl W _ _ ty 178 4 g (i*4) (n+m-i) dc ⟨vb,0,none⟩ m vc cur1 te _ t33 hsz (by rw[hW];exact setRow_heap w.drew g cur cur1 te (0,0) hg)
   (by simp only[List.length_take,Array.length_toList,Nat.min_def];split<;>split<;>omega)
   (fun j v hj=>by
    have:=hcv j v hj;rw[Addr.add_lit,Nat.zero_add];unfold World.cell? at this ⊢;rw[hW,show(w.drew.setRow g cur1).heap[vb]? =w.heap[vb]? from setRow_other w.drew g vb cur1 hne];exact this) (by simp only[List.length_take,Array.length_toList];omega) h1v
 have hE:w.drew.setRow g (bG (bG cur.toList ((i+m)*4) ((cur.toList.take (n*4)).drop (i*4))) (i*4) (vcur.toList.take (m*4))).toArray=(w.drew.setRow g cur1).setRow g (bG cur1.toList (i*4) (vcur.toList.take (m*4))).toArray:=by
  rw[setRow_setRow,hcur1]
 rw[hE];clear hE hcur1;have hw1:IntKind.i64.wrap ((i:Int)+(m:Int))=(i:Int)+(m:Int):=by rw[IntKind.wrap_i64];omega
 have hb1:(0:Int)<=(i:Int)+(m:Int):=by omega
 have hin:i<=n:=by omega
 have htn:((i:Int)+(m:Int)).toNat=i+m:=by omega
 have hb2:¬(c=i+m):=by omega
 have hb3:(i:Int)<=(n:Int)+(m:Int):=by omega
 have hb4:¬(c=i):=by omega
 go_enter Tryz.func230,Tryz.ntmps230
 go_wp2_with (simp only[hov])
 go_region_law (refine Mg rfl _ _ 64 64 rfl (.slice (some ⟨g,(i+m)*4,none⟩) (n+m-(i+m)) (c-(i+m))) (.slice (some ⟨g,i*4,none⟩) (n+m-i) (c-i)) (by simp[Act.eval,Act.put]) (by simp[Act.eval,Act.put]) (hcp1 _ _ _) ?_)
 go_wp2_with (at_builtin;refine LQ _ rfl _ _ 64 64 rfl _ _ rfl rfl (hcp2 _ rfl _ _) ?_)
 go_ret
 exact⟨rfl,rfl⟩
theorem ade(xa:Option Addr)(vc:Nat)(w:World):
  Calls U 230 #[.slice none 0 0,.int .i64 0,.slice xa 0 vc] w fun e w'=>e=.returned (.slice none 0 0)/\w'=w:=by
 go_enter Tryz.func230,Tryz.ntmps230
 go_wp2
 go_ret
 exact⟨rfl,rfl⟩
theorem adb(g n c i:Nat)(xa:Option Addr)(vc:Nat)(w:World)(hi:i<=n)(hnc:n<=c)(hc63:c<=9223372036854775807):
  Calls U 230 #[.slice (some ⟨g,0,none⟩) n c,.int .i64 i,.slice xa 0 vc] w fun e w'=>e=.returned (.slice (some ⟨g,0,none⟩) n c)/\w'=w:=by
 go_enter Tryz.func230,Tryz.ntmps230
 go_wp2
 all_goals(go_ret;exact⟨rfl,rfl⟩)
theorem ae6(xa:Option Addr)(m vc:Nat)(w:World)(hm:0<m)(v':Value)(W:World)(hr:∀ty,(Builtin.append_ #[64,64] ty #[.slice none 0 0,.slice xa m vc]).run U w=.ok v' W):
  Calls U 230 #[.slice none 0 0,.int .i64 0,.slice xa m vc] w fun e w'=>e=.returned v'/\w'=W:=by
 have hz1:¬((m:Int)=0):=by omega
 go_enter Tryz.func230,Tryz.ntmps230
 go_wp2_with (at_builtin;refine CS _ rfl _ _ 64 64 rfl _ _ rfl rfl (hr _) ?_)
 go_ret
 exact⟨rfl,rfl⟩
theorem ae5(g n c:Nat)(xa:Option Addr)(m vc:Nat)(w:World)(hnc:n<=c)(hc63:c<=9223372036854775807)(hm:0<m)(v':Value)(W:World)(hr:∀ty,(Builtin.append_ #[64,64] ty #[.slice (some ⟨g,0,none⟩) n c,.slice xa m vc]).run U w=.ok v' W):
  Calls U 230 #[.slice (some ⟨g,0,none⟩) n c,.int .i64 n,.slice xa m vc] w fun e w'=>e=.returned v'/\w'=W:=by
 have hz1:¬((m:Int)=0):=by omega
 go_enter Tryz.func230,Tryz.ntmps230
 go_wp2_with (at_builtin;refine CS _ rfl _ _ 64 64 rfl _ _ rfl rfl (hr _) ?_)
 all_goals(go_ret;exact⟨rfl,rfl⟩)
theorem ae4(g n c i vb m vc:Nat)(cur vcur:Array Value)(te ve:TypeId)(w:World)(hi:i<n)(hm:0<m)(hnc:n<=c)(hroom:c<n+m)(hc63:c<=9223372036854775807)(hbig:(n+m)*48<=140737488355328)
  (hg:w.heap[g]? =some (.cells cur te (0,0))) (hv:w.heap[vb]? =some (.cells vcur ve (0,0))) (hcs:cur.size=c*4) (hvs:m*4<=vcur.size)
  (h1c:∀v∈cur.toList.take (n*4),v.oneCell'=true) (h1v:∀v∈vcur.toList.take (m*4),v.oneCell'=true):
  ∃G ROW,∃W:World,G<=maxLen/\n+m<=G/\ROW.size=G*4/\ROW.toList.take (i*4)=cur.toList.take (i*4)/\W.os=w.os/\W.tape=w.tape/\W.output=w.output/\W.heap=w.heap.push (.cells ROW 178 (0,0))/\
  Calls U 230 #[.slice (some ⟨g,0,none⟩) n c,.int .i64 i,.slice (some ⟨vb,0,none⟩) m vc] w fun e w'=>
   e=.returned (.slice (some ⟨w.heap.size,0,none⟩) (n+m) G)/\w'.os=w.os/\w'.tape=w.tape/\w'.output=w.output/\
    w'.heap=(W.setRow w.heap.size (bG (bG ROW.toList (i*4) (vcur.toList.take (m*4))) ((i+m)*4) ((cur.toList.take (n*4)).drop (i*4))).toArray).heap:=by
 have t33:U.underlying 64=some (.slice 178):=by kernel_rfl
 have t3:U.underlying 3=some (.int .i64):=by kernel_rfl
 have hsz:(U.info? 178).map (·.size)=some 4:=by kernel_rfl
 have hinfo:(U.info? 178).map (fun i=>(i.zero.map (·.cells.size),i.size,i.bytes))=some (some 4,4,48):=by kernel_rfl
 obtain⟨i0,hi0,hzz⟩:=Option.map_eq_some_iff.1 hinfo;simp only[Prod.mk.injEq] at hzz;obtain⟨hz0,hzs,hzb⟩:=hzz;obtain⟨z,hz,hzc⟩:=Option.map_eq_some_iff.1 hz0;have hz1:¬((m:Int)=0):=by omega
 have hz2:¬((i:Int)=(n:Int)):=by omega
 have hz3:(c:Int)<(n:Int)+(m:Int):=by omega
 have hgw:g<w.heap.size:=(Array.getElem?_eq_some_iff.1 hg).1;have hvw:vb<w.heap.size:=(Array.getElem?_eq_some_iff.1 hv).1;have hkk:(n:Int)+(m:Int)-(i:Int)=((n+m-i:Nat):Int):=by omega
 have hik:i+(n+m-i)=n+m:=by omega
 have hdl:((cur.toList.take (n*4)).drop (i*4)).length=(n-i)*4:=by simp only[List.length_drop,List.length_take,Array.length_toList,hcs];rw[Nat.min_eq_left (by omega),Nat.sub_mul]
 have hcl:∀j v,(cur.toList.take (n*4))[j]? =some v->w.cell? ⟨g,j,none⟩=some v:=fun j v h=>by
  rw[List.getElem?_take] at h;split at h
  ·simpa[World.cell?,hg] using h
  ·cases h
 have hcv:∀j v,(vcur.toList.take (m*4))[j]? =some v->w.cell? ⟨vb,j,none⟩=some v:=fun j v h=>by
  rw[List.getElem?_take] at h;split at h
  ·simpa[World.cell?,hv] using h
  ·cases h
 have hold:(Builtin.firstCells i0.size i (.slice (some ⟨g,0,none⟩) i c)).run U w.drew=.ok (cur.toList.take (i*4)).toArray w.drew:=by
  rw[hzs];exact run_firstCells_some w.drew 4 i ⟨g,0,none⟩ i c (cur.toList.take (i*4)) (by simp only[List.length_take,Array.length_toList,hcs];omega) (fun j v hj=>by
   rw[Addr.add_lit,Nat.zero_add];refine hcl j v ?_
   rw[List.getElem?_take] at hj ⊢;split at hj
   ·rw[if_pos (by omega)];exact hj
   ·cases hj)
 have hrz:∀ty,(Builtin.append_ #[64,3] ty #[.slice (some ⟨g,0,none⟩) i c,.int .i64 ((n:Int)+(m:Int)-(i:Int))]).run U w=
   .ok (.slice (some ⟨w.heap.size,0,none⟩) (n+m) (grownCap w (n+m) c 178)) (w.drew.alloc (.cells ((cur.toList.take (i*4)).toArray++Builtin.zeroCells z.cells (n+m-i)++Builtin.zeroCells z.cells (grownCap w (n+m) c 178-(n+m))) 178)):=fun ty=>by
  have h:=Lib.run_append_grow_zeros w 64 3 ty 178 i0 z .i64 .i64 t33 t3 hi0 hz (some ⟨g,0,none⟩) i c (cur.toList.take (i*4)) hold (n+m-i) (by omega) (by omega) (by omega) (by omega) (by rw[hzb];omega) (by rw[hzb,hik];exact growslice_fits hroom hbig)
  rw[hik] at h;rw[hkk];exact h
 obtain⟨G,hG⟩:∃G,G=grownCap w (n+m) c 178:=⟨_,rfl⟩;obtain⟨ROW,hROW⟩:∃ROW:Array Value,ROW=(cur.toList.take (i*4)).toArray++Builtin.zeroCells z.cells (n+m-i)++Builtin.zeroCells z.cells (G-(n+m)):=⟨_,rfl⟩;rw[<-hG] at hrz;rw[<-hROW] at hrz;have hGn:n+m<=G:=by rw[hG];exact grownCap_ge w _ _ _
 have hGm:G<=maxLen:=by rw[hG];exact grownCap_le_maxLen w (n+m) c 178 (by unfold maxLen;omega)
 have hG63:G<=9223372036854775807:=by unfold maxLen at hGm;omega
 have hRl:ROW.size=G*4:=by
  rw[hROW];simp only[Array.size_append,List.size_toArray,size_zeroCells,hzc,List.length_take,Array.length_toList,hcs];omega
 have hRt:ROW.toList.take (i*4)=cur.toList.take (i*4):=by
  rw[hROW];simp only[Array.toList_append,List.append_assoc];have:i*4=(cur.toList.take (i*4)).length:=by simp only[List.length_take,Array.length_toList,hcs];omega
  exact List.take_left' this.symm
 refine⟨G,ROW,w.drew.alloc (.cells ROW 178),hGm,hGn,hRl,hRt,rfl,rfl,rfl,rfl,?_⟩;obtain⟨W1,hW1⟩:∃W1,W1=w.drew.alloc (.cells ROW 178):=⟨_,rfl⟩;rw[<-hW1] at hrz ⊢;have hNew:W1.heap[w.heap.size]? =some (.cells ROW 178 (0,0)):=by rw[hW1];exact heap_alloc_new w.drew _
 have hOld:∀b,b<w.heap.size->W1.heap[b]? =w.heap[b]? :=fun b hb=>by rw[hW1];exact RowKit.Below.heap_alloc w.drew _ b hb
 have hos:W1.os=w.os/\W1.tape=w.tape/\W1.output=w.output:=by rw[hW1];exact⟨rfl,rfl,rfl⟩
 have hgN:g≠w.heap.size:=by omega
 have hvN:vb≠w.heap.size:=by omega
 have hcpA:∀(W:World),W.heap=W1.heap->∀ty dc,(Builtin.copy_ #[64,64] ty #[.slice (some ⟨w.heap.size,i*4,none⟩) (n+m-i) dc,.slice (some ⟨vb,0,none⟩) m vc]).run U W=
   .ok (goInt (Nat.min m (n+m-i))) (W.setRow w.heap.size (bG ROW.toList (i*4) (vcur.toList.take (m*4))).toArray):=fun W hW ty dc=>
  xl W _ _ ty 178 4 w.heap.size (i*4) (n+m-i) dc ⟨vb,0,none⟩ m vc ROW 178 _ t33 hsz (by rw[hW];exact hNew)
   (by simp only[List.length_take,Array.length_toList,Nat.min_def];split<;>split<;>omega)
   (fun j v hj=>by
    have:=hcv j v hj;rw[Addr.add_lit,Nat.zero_add];unfold World.cell? at this ⊢;rw[hW,show W1.heap[vb]? =w.heap[vb]? from hOld vb hvw];exact this) (by simp only[List.length_take,Array.length_toList];omega) h1v
 obtain⟨R2,hR2⟩:∃R2,R2=(bG ROW.toList (i*4) (vcur.toList.take (m*4))).toArray:=⟨_,rfl⟩;have hE:W1.setRow w.heap.size (bG (bG ROW.toList (i*4) (vcur.toList.take (m*4))) ((i+m)*4) ((cur.toList.take (n*4)).drop (i*4))).toArray=
   (W1.setRow w.heap.size R2).setRow w.heap.size (bG R2.toList ((i+m)*4) ((cur.toList.take (n*4)).drop (i*4))).toArray:=by rw[setRow_setRow,hR2]
 rw[hE];have hR2s:R2.size=G*4:=by rw[hR2];simp only[bG,List.size_toArray,List.length_append,List.length_drop,List.length_take,Array.length_toList,hRl];omega
 rw[<-hR2] at hcpA;clear hE hR2;have hcpB:∀(W:World),W.heap=(W1.setRow w.heap.size R2).heap->∀ty dc sc,(Builtin.copy_ #[64,64] ty #[.slice (some ⟨w.heap.size,(i+m)*4,none⟩) (n+m-(i+m)) dc,.slice (some ⟨g,i*4,none⟩) (n-i) sc]).run U W=
   .ok (goInt (Nat.min (n-i) (n+m-(i+m)))) (W.setRow w.heap.size (bG R2.toList ((i+m)*4) ((cur.toList.take (n*4)).drop (i*4))).toArray):=fun W hW ty dc sc=>
  xl W _ _ ty 178 4 w.heap.size ((i+m)*4) (n+m-(i+m)) dc ⟨g,i*4,none⟩ (n-i) sc R2 178 _ t33 hsz (by rw[hW];exact setRow_heap W1 w.heap.size ROW R2 178 (0,0) hNew)
   (by rw[hdl];simp only[Nat.min_def];split<;>omega)
   (fun j v hj=>by
    have:=hcl (i*4+j) v (by rwa[List.getElem?_drop] at hj)
    rw[Addr.add_lit];unfold World.cell? at this ⊢;rw[hW,show(W1.setRow w.heap.size R2).heap[g]? =w.heap[g]? from(setRow_other W1 w.heap.size g R2 hgN).trans (hOld g hgw)];exact this) (by rw[hdl,hR2s];omega) (fun v hv=>h1c v (List.mem_of_mem_drop hv))
 have hGi:¬(G=i):=by omega
 have hGim:¬(G=i+m):=by omega
 have hci:¬(c=i):=by omega
 have hw1:IntKind.i64.wrap ((i:Int)+(m:Int))=(i:Int)+(m:Int):=by rw[IntKind.wrap_i64];omega
 have hb1:(0:Int)<=(i:Int)+(m:Int):=by omega
 have hin:i<=n:=by omega
 have htn:((i:Int)+(m:Int)).toNat=i+m:=by omega
 have hb3:(i:Int)<=(n:Int):=by omega
 clear hkk hik hold hROW hG hRl hW1;go_enter Tryz.func230,Tryz.ntmps230
 go_wp2_with (first
  |(at_builtin;refine CS _ rfl _ _ 64 3 rfl _ _ rfl rfl (hrz _) ?_)
  |(at_builtin;refine LQ _ rfl _ _ 64 64 rfl _ _ rfl rfl (hcpA _ rfl _ _) ?_))
 go_region_law (refine Mg rfl _ _ 64 64 rfl (.slice (some ⟨w.heap.size,(i+m)*4,none⟩) (n+m-(i+m)) (G-(i+m))) (.slice (some ⟨g,i*4,none⟩) (n-i) (c-i)) (by simp[Act.eval,Act.put]) (by simp[Act.eval,Act.put]) (hcpB (W1.setRow w.heap.size R2).drew rfl 3 (G-(i+m)) (c-i)) ?_)
 go_wp2
 go_ret
 exact⟨rfl,hos.1,hos.2.1,hos.2.2,rfl⟩
noncomputable def R_:aH:=Gu .entry 48
theorem ai7:aG U 230 R_:=ac9 (t:=.entry) (bt:=48) rfl (by decide) (T:=64) (e:=178) ⟨ade,adb,ae6,ae5,ada,ae4⟩ (fun vs w=>enters_of Tryz.func230 (by kernel_rfl) rfl _ _) (by kernel_rfl) (by kernel_rfl)
noncomputable abbrev amR:bi:=[(105,vL),(201,I1),(229,UT),(230,R_)]
theorem BK:a_ U (bg aj amR):=bf ⟨z105,z201,z229,ai7,⟨⟩⟩
abbrev PG:Shape:=⟨[aK 0 .entry,aK 1 .entry],[],59⟩
abbrev Po:List aO:=[(.norm,⟨[aK 0 .entry,aK 1 .entry,au 18],[],59⟩)]
noncomputable def GH(y:PG.J):Option (aD Po):=
(f105 ((y.1.1,()),())).bind fun a=>
 bif(!(!a.1.1)) then
(f105 ((y.1.2.1,()),())).bind fun b=>
 some ((y.1.1,y.1.2.1,(!b.1.1),()),())
else
 some ((y.1.1,y.1.2.1,true,()),())
theorem agj:aY U (an (codeOf Tryz.f185) 1 12) (a' PG Po GH):=cW BK (by kernel_rfl) ag fun y=>by kernel_rfl
abbrev Mi:Shape:=⟨[bc 6 3000384,aM 8 8 0,ae 9,aK 21 .entry,ae 22,ae 23],[bb 3000384 .entry 6 0,aL 8 [ai,bq,bq,ai]],59⟩
abbrev Mc:List aO:=[(.norm,⟨[bc 6 3000384,aK 21 .entry,ae 22,ae 23,au 42,aM 43 8 1,ae 44,au 45,au 46,au 53],[bb 3000384 .entry 6 0,aL 8 [ai,bq,bq,ai]],59⟩)]
noncomputable def C'(y:Mi.J):Option (aD Mc):=
 bif(y.2.2.1.2.1 !=(1:Int)) then
 some (((),y.1.2.2.2.1,y.1.2.2.2.2.1,y.1.2.2.2.2.2.1,true,(),y.2.2.1.2.1,(y.2.2.1.2.1 !=(1:Int)),true,true,()),y.2.1,(y.2.2.1.1,y.2.2.1.2.1,y.2.2.1.2.2.1,y.2.2.1.2.2.2.1,()),())
else
(a8 y.2.1.length y.1.2.2.1).bind fun a=>
(y.2.1[a]?).bind fun b=>
 some (((),y.1.2.2.2.1,y.1.2.2.2.2.1,y.1.2.2.2.2.2.1,(!((b.path==y.2.2.1.1)&&((b.kind==y.2.2.1.2.1)&&((b.mode==y.2.2.1.2.2.1)&&(b.text==y.2.2.1.2.2.2.1))))),(),y.2.2.1.2.1,(y.2.2.1.2.1 !=(1:Int)),false,(!((b.path==y.2.2.1.1)&&((b.kind==y.2.2.1.2.1)&&((b.mode==y.2.2.1.2.2.1)&&(b.text==y.2.2.1.2.2.2.1))))),()),y.2.1,(y.2.2.1.1,y.2.2.1.2.1,y.2.2.1.2.2.1,y.2.2.1.2.2.2.1,()),())
theorem _0:aY U (an (da (an (codeOf Tryz.f185) 1 122)) 244 250678) (a' Mi Mc C'):=cW BK (by kernel_rfl) ag fun y=>by kernel_rfl
abbrev x_:Shape:=⟨[bc 6 3000384,aK 21 .entry,ae 22,ae 23],[bb 3000384 .entry 6 0],59⟩
abbrev pM:List aO:=[(.ret,⟨[bc 4 3000256,au 5],[bb 3000256 .entry 4 0],59⟩),(.exit 0,⟨[bc 6 3000384],[bb 3000384 .entry 6 0],59⟩)]
noncomputable def ys(y:x_.J):bR x_ pM:=
 bif(decide (y.1.2.2.2.1<y.1.2.2.1)) then
(aU y.1.2.1 y.1.2.2.2.1).bind fun a=>
(f201 ((y.2.1,a.path,()),())).bind fun b=>
 bif(!b.1.2.1) then
(sY 48 y.2.1 b.1.1 ([a]:List az)).bind fun c=>
 some (.inl (((),y.1.2.1,y.1.2.2.1,(IntKind.i64.wrap (y.1.2.2.2.1+(1:Int))),()),c,()))
else
(C' (((),(),b.1.1,y.1.2.1,y.1.2.2.1,y.1.2.2.2.1,()),y.2.1,(a.path,a.kind,a.mode,a.text,()),())).bind fun d=>
 bif d.1.2.2.2.2.1 then
 some (.inr (.inl (((),false,()),([]:List az),())))
else
 some (.inl (((),d.1.2.1,d.1.2.2.1,(IntKind.i64.wrap (d.1.2.2.2.1+(1:Int))),()),d.2.1,()))
else
 some (.inr (.inr (((),()),y.2.1,())))
noncomputable def ER:x_.J->Option (aD pM):=bv ys
theorem aeB:aY U (an (codeOf Tryz.f185) 1 122) (a' x_ pM ER):=bT BK (by kernel_rfl) (ba _0 ag) fun y=>by kernel_rfl
abbrev i185:Shape:=⟨[aK 0 .entry,aK 1 .entry],[],59⟩
abbrev Th:Shape:=⟨[bc 4 3000256,au 5],[bb 3000256 .entry 4 0],59⟩
noncomputable def f185(a:i185.J):Option Th.J:=
(GH ((a.1.1,a.1.2.1,()),())).bind fun b=>
 bif b.1.2.2.1 then
 some (((),false,()),([]:List az),())
else
(f229 ((b.1.1,()),())).bind fun c=>
(ER (((),b.1.2.1,(b.1.2.1.length:Int),(0:Int),()),c.2.1,())).bind fun d=>
(match d with
|.inl e=>
 some (((),e.1.2.1,()),e.2.1,())
|.inr f=>
(f105 ((f.2.1,()),())).bind fun g=>
 bif(!g.1.1) then
 some (((),false,()),([]:List az),())
else
 some (((),true,()),f.2.1,()))
noncomputable def Ve:aH:=aP aj Tryz.f185 i185 Th [] f185
theorem akI:aG U 185 Ve:=aS BK Tryz.func185 (by kernel_rfl) (ba agj (ba aeB ag)) (fun y=>by kernel_rfl) fun a=>by kernel_rfl
noncomputable abbrev ann:bi:=[(185,Ve)]
theorem Wf:a_ U (bg aj ann):=bf ⟨akI,⟨⟩⟩
abbrev y3:Shape:=⟨[bc 4 3000256,aK 9 .pack,ae 10,ae 11],[bb 3000256 .entry 4 0],27⟩
abbrev pZ:List aO:=[(.ret,⟨[bc 2 3000128,au 3],[bb 3000128 .entry 2 0],27⟩),(.exit 0,⟨[bc 4 3000256],[bb 3000256 .entry 4 0],27⟩)]
noncomputable def zF(y:y3.J):bR y3 pZ:=
 bif(decide (y.1.2.2.2.1<y.1.2.2.1)) then
(aU y.1.2.1 y.1.2.2.2.1).bind fun a=>
(f185 ((y.2.1,a.bQ,()),())).bind fun b=>
 bif(!b.1.2.1) then
 some (.inr (.inl (((),false,()),([]:List az),())))
else
 some (.inl (((),y.1.2.1,y.1.2.2.1,(IntKind.i64.wrap (y.1.2.2.2.1+(1:Int))),()),b.2.1,()))
else
 some (.inr (.inr (((),()),y.2.1,())))
noncomputable def Gm:y3.J->Option (aD pZ):=bv zF
theorem agD:aY U (an (codeOf Tryz.f133) 1 58) (a' y3 pZ Gm):=bT Wf (by kernel_rfl) ag fun y=>by kernel_rfl
abbrev i133:Shape:=⟨[aK 0 .pack],[],27⟩
abbrev TO:Shape:=⟨[bc 2 3000128,au 3],[bb 3000128 .entry 2 0],27⟩
noncomputable def f133(a:i133.J):Option TO.J:=
(Gm (((),a.1.1,(a.1.1.length:Int),(0:Int),()),([]:List az),())).bind fun b=>
(match b with
|.inl c=>
 some (((),c.1.2.1,()),c.2.1,())
|.inr d=>
 some (((),true,()),d.2.1,()))
noncomputable def VK:aH:=aP aj Tryz.f133 i133 TO [] f133
theorem ak0:aG U 133 VK:=aS Wf Tryz.func133 (by kernel_rfl) (ba agD ag) (fun y=>by kernel_rfl) fun a=>by kernel_rfl
theorem DY:∀(r:List az) (out B:List az),(∀e,e∈r->lr e)->(∀e,e∈out->lr e)->hF out r=some B->B.length<=out.length+r.length/\∀e,e∈B->lr e:=by
 intro r;induction r with
 |nil=>intro out B _ h2 h;cases h;exact⟨Nat.le_refl _,h2⟩
 |cons e r ih=>
  intro out B h1 h2 h;rw[xo] at h;obtain⟨o1,h3,aw⟩:=Option.bind_eq_some_iff.1 h;have bk:=ih o1 B (fun x hx=>h1 x (List.mem_cons_of_mem _ hx)) (fun x hx=>by
   rcases DE h3 hx with rfl|h
   ·exact h1 x List.mem_cons_self
   ·exact h2 x h) aw
  have cp:=xA h3;exact⟨by simp only[List.length_cons];omega,bk.2⟩
theorem aaO{t:List az}(h:dL t=true):gm t:=by
 unfold dL at h;simp only[Bool.and_eq_true] at h;exact Rk h.1.1
theorem jp{t:List az}(h:dL t=true):t.length<=16:=by
 unfold dL at h;simp only[Bool.and_eq_true,decide_eq_true_eq] at h;exact h.2
theorem ad2(a)(hs:cR a.1.1.length):f229 a=some (((),()),(a.1.1,())):=by
 obtain⟨⟨xs,u⟩,b5⟩:=a;have hs:xs.length<=2097152:=hs;have h2:(cy 48 ([]:List az) xs).bind (fun x=>some (((),()),(x,())))=(some (((),()),(xs,())):Option Ii.J):=by
  rw[d' (by decide) (by unfold ap;simp only[List.length_nil];omega)];rfl
 simp only[f229];rw[h2];unfold pK;split
 ·rfl
 ·rename_i h;exact absurd (fun he:xs=[]=>by subst he;rfl) h
theorem aaJ(a)(ha:io a.1.1)(hb:io a.1.2.1)(h1:dL a.1.1=true)(h2:dL a.1.2.1=true):f185 a=
  some (match hF a.1.1 a.1.2.1 with|some out=>(bif dL out then(((),(true,())),(out,())) else(((),(false,())),(([]:List az),())))|none=>(((),(false,())),(([]:List az),()))):=by
 obtain⟨⟨xs,bd,u⟩,b5⟩:=a;have h1:dL xs=true:=h1;have h2:dL bd=true:=h2;have atV:=jp h1;have atU:=jp h2;have e1:=pF ((xs,()),()) ha;have e2:=pF ((bd,()),()) hb;have bp:=ad2 ((xs,()),()) (show xs.length<=2097152 by omega)
 have key:ER (((),(bd,((bd.length:Int),((0:Int),())))),(xs,()))=_:=lF ys bd (fun i (out:List az)=>(((),(bd,((bd.length:Int),((i:Int),())))),(out,())))
  (fun i e out=>some (match ie out e with|some B=>.inl B|none=>.inr ((.inl (((),(false,())),(([]:List az),()))):aD pM))) (fun out=>((.inr (((),()),(out,()))):aD pM))
  (fun i out=>out.length<=xs.length+i/\gm out) xs ⟨Nat.le_refl _,aaO h1⟩ (fun i x out hx dq=>?_) (fun out _=>?_)
 ·have fold:∀(r:List az) (k:Nat) (out:List az),eK (fun i e out=>some (match ie out e with|some B=>.inl B|none=>.inr ((.inl (((),(false,())),(([]:List az),()))):aD pM))) (fun out=>((.inr (((),()),(out,()))):aD pM)) k r out=
    some (match hF out r with|some B=>.inr (((),()),(B,()))|none=>.inl (((),(false,())),(([]:List az),()))):=by
   intro r;induction r with
   |nil=>intro k out;rfl
   |cons e r ih=>
    intro k out;rw[xo];simp only[eK];cases ie out e with
    |none=>rfl
    |some B=>simp only[Option.bind_some];exact ih _ _
  rw[fold] at key;simp only[f185,GH,e1,e2,h1,h2,bp,Bool.not_true,Bool.not_false,cond_true,cond_false,Option.bind_some,key];cases hj:hF xs bd with
  |none=>rfl
  |some B=>
   have hm:=DY bd xs B hb.2 ha.2 hj;simp only[Option.bind_some];rw[pF _ ⟨show B.length<=2097152 by omega,hm.2⟩]
   simp only[Option.bind_some];cases dL B<;>rfl
 ·have hi:=cS hx;have hw:ap i:=by unfold ap;omega
  refine⟨?_,fun aC af=>?_⟩
  ·have ma:=L8 ((out,(x.path,())),()) (show out.length<=2097152 by omega) dq.2
   have pe:=rX out x.path;simp only[ys,b8 hi,cond_true,bX,hx,Option.bind_some,ma,jW,ie];have grow:sY 48 out (b6 out x.path:Int) [x]=some (kn out (b6 out x.path) x):=by
    unfold sY;rw[if_pos ⟨by omega,by omega,by unfold room;simp only[List.length_cons,List.length_nil];omega,by unfold maxLen;simp only[List.length_cons,List.length_nil];omega⟩,Int.toNat_natCast]
    rfl
   cases ar:out[b6 out x.path]? with
   |none=>simp only[Bool.not_false,cond_true,grow,Option.bind_some,bS hw];rfl
   |some q=>
    have hin:=fq (cS ar);simp only;cases hp:(q.path==x.path) with
    |false=>simp only[Bool.not_false,cond_true,grow,Option.bind_some,bS hw,cond_false];rfl
    |true=>
     have tw:((q.path==x.path)&&((q.kind==x.kind)&&((q.mode==x.mode)&&(q.text==x.text))))=mf q x:=rfl;simp only[Bool.not_true,cond_false,cond_true,C',hin,ar,Option.bind_some,nS,afh x q];cases hk:(x.kind !=1) with
     |true=>rfl
     |false=>
      have al7:(mf q x)=((q.path==x.path)&&((q.kind==x.kind)&&((q.mode==x.mode)&&(q.text==x.text)))):=rfl;rw[al7];cases ((q.path==x.path)&&((q.kind==x.kind)&&((q.mode==x.mode)&&(q.text==x.text)))) with
      |false=>rfl
      |true=>simp only[Bool.not_true,Bool.false_or,cond_false,Option.bind_some,bS hw];rfl
  ·simp only[Option.some.injEq] at af;cases hs:ie out x with
   |none=>rw[hs] at af;cases af
   |some B=>
    rw[hs] at af;cases af;have cp:=xA hs;exact⟨by omega,acb dq.2 hs⟩
 ·simp only[ys,dh,cond_false]
def gL(out:List az):List aW->Option (List az)
 |[]=>some out
 |p::r=>match hF out p.bQ with
  |some B=>bif dL B then gL B r else none
  |none=>none
def stepT(out:List az)(p:aW):Option (List az):=match hF out p.bQ with
 |some B=>bif dL B then some B else none
 |none=>none
theorem Mb(out:List az)(p:aW)(r:List aW):gL out (p::r)=(stepT out p).bind fun B=>gL B r:=by
 unfold stepT;rw[gL];cases hF out p.bQ with
 |none=>rfl
 |some B=>simp only;cases dL B<;>rfl
theorem Ow{out B:List az}{p:aW}(h:stepT out p=some B):dL B=true/\hF out p.bQ=some B:=by
 unfold stepT at h;split at h
 ·rename_i cY aE;cases aq:dL cY with
  |true=>rw[aq] at h;cases h;exact⟨aq,aE⟩
  |false=>rw[aq] at h;cases h
 ·cases h
theorem abM(a)(hb:fS a.1.1)(hk:a.1.1.all cB=true):f109 a=some (((),((gL [] a.1.1).isSome,())),((gL [] a.1.1).getD [],())):=by
 obtain⟨⟨ps,u⟩,b5⟩:=a;have hl:ps.length<=2097152:=hb.1;have JT:∀p,p∈ps->dL p.bQ=true/\io p.bQ:=by
  intro p hp;have:=List.all_eq_true.1 hk p hp;unfold cB at this;simp only[Bool.and_eq_true] at this;exact⟨this.2,(hb.2 p hp).2.2.2⟩
 have key:Gr ((ps,((),((0:Int),()))),(([]:List az),()))=_:=lF zJ ps (fun i (out:List az)=>((ps,((),((i:Int),()))),(out,())))
  (fun i p out=>some (match stepT out p with|some B=>.inl B|none=>.inr ((.inl (((),(false,())),(([]:List az),()))):aD p0))) (fun out=>((.inr (((),()),(out,()))):aD p0))
  (fun i out=>out.length<=16/\∀e,e∈out->lr e) [] ⟨Nat.zero_le _,fun e h=>by cases h⟩ (fun i x out hx dq=>?_) (fun out _=>?_)
 ·have fold:∀(r:List aW) (k:Nat) (out:List az),eK (fun i p out=>some (match stepT out p with|some B=>.inl B|none=>.inr ((.inl (((),(false,())),(([]:List az),()))):aD p0))) (fun out=>((.inr (((),()),(out,()))):aD p0)) k r out=
    some (match gL out r with|some B=>.inr (((),()),(B,()))|none=>.inl (((),(false,())),(([]:List az),()))):=by
   intro r;induction r with
   |nil=>intro k out;rfl
   |cons p r ih=>
    intro k out;rw[Mb];simp only[eK];cases stepT out p with
    |none=>rfl
    |some B=>simp only[Option.bind_some];exact ih _ _
  rw[fold] at key;simp only[f109,key,Option.bind_some];cases gL [] ps with
  |none=>rfl
  |some B=>rfl
 ·have hi:=cS hx;have hw:ap i:=by unfold ap;omega
  obtain⟨JU,n8⟩:=JT x (List.mem_of_getElem? hx);have wB:=jp JU;have ef:io out:=⟨show out.length<=2097152 by omega,dq.2⟩
  refine⟨?_,fun aC af=>?_⟩
  ·have hj:=adQ ((out,(x.bQ,())),()) ef n8 (show out.length+x.bQ.length<=2097152 by omega)
   simp only[zJ,b8 hi,cond_true,bX,hx,Option.bind_some,hj,stepT];cases hF out x.bQ with
   |none=>rfl
   |some B=>
    simp only;cases dL B with
    |false=>rfl
    |true=>simp only[Bool.not_true,cond_false,cond_true,bS hw];rfl
  ·simp only[Option.some.injEq] at af;cases hs:stepT out x with
   |none=>rw[hs] at af;cases af
   |some B=>
    rw[hs] at af;cases af;obtain⟨bk,cp⟩:=Ow hs;exact⟨jp bk,(DY _ _ _ n8.2 dq.2 cp).2⟩
 ·simp only[zJ,dh,cond_false]
theorem adK(a)(hb:fS a.1.1)(hk:a.1.1.all cB=true):∃out,f109 a=some (((),((gL [] a.1.1).isSome,())),(out,())):=⟨_,abM a hb hk⟩
theorem Z_(a)(hb:fS a.1.1)(hk:a.1.1.all cB=true):f133 a=some (((),((gL [] a.1.1).isSome,())),((gL [] a.1.1).getD [],())):=by
 obtain⟨⟨ps,u⟩,b5⟩:=a;have hl:ps.length<=2097152:=hb.1;have JT:∀p,p∈ps->dL p.bQ=true/\io p.bQ:=by
  intro p hp;have:=List.all_eq_true.1 hk p hp;unfold cB at this;simp only[Bool.and_eq_true] at this;exact⟨this.2,(hb.2 p hp).2.2.2⟩
 have key:Gm (((),(ps,((ps.length:Int),((0:Int),())))),(([]:List az),()))=_:=lF zF ps (fun i (out:List az)=>(((),(ps,((ps.length:Int),((i:Int),())))),(out,())))
  (fun i p out=>some (match stepT out p with|some B=>.inl B|none=>.inr ((.inl (((),(false,())),(([]:List az),()))):aD pZ))) (fun out=>((.inr (((),()),(out,()))):aD pZ))
  (fun i out=>dL out=true/\∀e,e∈out->lr e) [] ⟨rfl,fun e h=>by cases h⟩ (fun i x out hx dq=>?_) (fun out _=>?_)
 ·have fold:∀(r:List aW) (k:Nat) (out:List az),eK (fun i p out=>some (match stepT out p with|some B=>.inl B|none=>.inr ((.inl (((),(false,())),(([]:List az),()))):aD pZ))) (fun out=>((.inr (((),()),(out,()))):aD pZ)) k r out=
    some (match gL out r with|some B=>.inr (((),()),(B,()))|none=>.inl (((),(false,())),(([]:List az),()))):=by
   intro r;induction r with
   |nil=>intro k out;rfl
   |cons p r ih=>
    intro k out;rw[Mb];simp only[eK];cases stepT out p with
    |none=>rfl
    |some B=>simp only[Option.bind_some];exact ih _ _
  rw[fold] at key;simp only[f133,key,Option.bind_some];cases gL [] ps with
  |none=>rfl
  |some B=>rfl
 ·have hi:=cS hx;have hw:ap i:=by unfold ap;omega
  obtain⟨JU,n8⟩:=JT x (List.mem_of_getElem? hx);have wB:=jp dq.1;have ef:io out:=⟨show out.length<=2097152 by omega,dq.2⟩
  refine⟨?_,fun aC af=>?_⟩
  ·have hj:=aaJ ((out,(x.bQ,())),()) ef n8 dq.1 JU;simp only[zF,b8 hi,cond_true,bX,hx,Option.bind_some,hj,stepT];cases hF out x.bQ with
   |none=>rfl
   |some B=>
    simp only;cases dL B with
    |false=>rfl
    |true=>simp only[Bool.not_true,cond_false,cond_true,bS hw];rfl
  ·simp only[Option.some.injEq] at af;cases hs:stepT out x with
   |none=>rw[hs] at af;cases af
   |some B=>
    rw[hs] at af;cases af;obtain⟨bk,cp⟩:=Ow hs;exact⟨bk,(DY _ _ _ n8.2 dq.2 cp).2⟩
 ·simp only[zF,dh,cond_false]
theorem _I(a)(hb:fS a.1.1)(hk:a.1.1.all cB=true):∃out,f133 a=some (((),((gL [] a.1.1).isSome,())),(out,())):=⟨_,Z_ a hb hk⟩
abbrev OF:Shape:=⟨[aK 0 .i64,aK 1 .i64,ae 5],[],42⟩
abbrev Oo:List aO:=[(.norm,⟨[aK 0 .i64,aK 1 .i64,ae 5],[],42⟩),(.exit 0,⟨[],[],42⟩)]
noncomputable def rR(y:OF.J):Option (aD Oo):=
 bif(!(decide (y.1.2.2.1<(y.1.1.length:Int)))) then
 bif(decide (y.1.2.2.1<(y.1.2.1.length:Int))) then
 some (.inl ((y.1.1,y.1.2.1,y.1.2.2.1,()),()))
else
 some (.inr ((),()))
else
 some (.inl ((y.1.1,y.1.2.1,y.1.2.2.1,()),()))
theorem aew:aY U (an (da (an (codeOf Tryz.f238) 1 26)) 52 104) (a' OF Oo rR):=cW g0 (by kernel_rfl) ag fun y=>by kernel_rfl
abbrev Nt:Shape:=⟨[aK 0 .i64,aK 1 .i64,ae 5,ae 6,ae 7],[],42⟩
abbrev M':List aO:=[(.norm,⟨[aK 0 .i64,aK 1 .i64,ae 5,ae 6,ae 7],[],42⟩)]
noncomputable def ug(y:Nt.J):Option (aD M'):=
 bif(decide (y.1.2.2.1<(y.1.1.length:Int))) then
(aU y.1.1 y.1.2.2.1).bind fun a=>
 some ((y.1.1,y.1.2.1,y.1.2.2.1,a,y.1.2.2.2.2.1,()),())
else
 some ((y.1.1,y.1.2.1,y.1.2.2.1,y.1.2.2.2.1,y.1.2.2.2.2.1,()),())
theorem acx:aY U (an (da (an (codeOf Tryz.f238) 1 26)) 52 3366) (a' Nt M' ug):=cW g0 (by kernel_rfl) ag fun y=>by kernel_rfl
abbrev Ns:Shape:=⟨[aK 0 .i64,aK 1 .i64,ae 5,ae 6,ae 7],[],42⟩
abbrev M_:List aO:=[(.norm,⟨[aK 0 .i64,aK 1 .i64,ae 5,ae 6,ae 7],[],42⟩)]
noncomputable def uf(y:Ns.J):Option (aD M_):=
 bif(decide (y.1.2.2.1<(y.1.2.1.length:Int))) then
(aU y.1.2.1 y.1.2.2.1).bind fun a=>
 some ((y.1.1,y.1.2.1,y.1.2.2.1,y.1.2.2.2.1,a,()),())
else
 some ((y.1.1,y.1.2.1,y.1.2.2.1,y.1.2.2.2.1,y.1.2.2.2.2.1,()),())
theorem acw:aY U (an (da (an (codeOf Tryz.f238) 1 26)) 52 6734) (a' Ns M_ uf):=cW g0 (by kernel_rfl) ag fun y=>by kernel_rfl
abbrev yJ:Shape:=⟨[aK 0 .i64,aK 1 .i64,ae 5],[],42⟩
abbrev Ft:List aO:=[(.ret,⟨[ae 4],[],42⟩),(.exit 0,⟨[],[],42⟩)]
noncomputable def r_(y:yJ.J):bR yJ Ft:=
(rR ((y.1.1,y.1.2.1,y.1.2.2.1,()),())).bind fun a=>
(match a with
|.inl b=>
(ug ((b.1.1,b.1.2.1,b.1.2.2.1,((-1):Int),((-1):Int),()),())).bind fun c=>
(uf ((c.1.1,c.1.2.1,c.1.2.2.1,c.1.2.2.2.1,c.1.2.2.2.2.1,()),())).bind fun d=>
 bif(decide (d.1.2.2.2.1<d.1.2.2.2.2.1)) then
 some (.inr (.inl ((((-1):Int),()),())))
else
 bif(decide (d.1.2.2.2.1>d.1.2.2.2.2.1)) then
 some (.inr (.inl (((1:Int),()),())))
else
 some (.inl ((d.1.1,d.1.2.1,(IntKind.i64.wrap (d.1.2.2.1+(1:Int))),()),()))
|.inr e=>
 some (.inr (.inr ((),()))))
noncomputable def nx:yJ.J->Option (aD Ft):=bv r_
theorem af8:aY U (an (codeOf Tryz.f238) 1 26) (a' yJ Ft nx):=bT g0 (by kernel_rfl) (ba aew (ba acx (ba acw ag))) fun y=>by kernel_rfl
abbrev i238:Shape:=⟨[aK 0 .i64,aK 1 .i64],[],42⟩
abbrev Ih:Shape:=⟨[ae 4],[],42⟩
noncomputable def f238(a:i238.J):Option Ih.J:=
(nx ((a.1.1,a.1.2.1,(0:Int),()),())).bind fun b=>
(match b with
|.inl c=>
 some ((c.1.1,()),())
|.inr d=>
 some (((0:Int),()),()))
noncomputable def UP:aH:=aP aj Tryz.f238 i238 Ih [] f238
theorem ako:aG U 238 UP:=aS g0 Tryz.func238 (by kernel_rfl) (ba af8 ag) (fun y=>by kernel_rfl) fun a=>by kernel_rfl
noncomputable abbrev amK:bi:=[(140,I8),(238,UP)]
theorem V1:a_ U (bg aj amK):=bf ⟨Sl,ako,⟨⟩⟩
abbrev PF:Shape:=⟨[bc 5 3000320,au 6,bc 7 3000448,au 8],[bb 3000320 .i64 5 0,bb 3000448 .i64 7 0],28⟩
abbrev Pn:List aO:=[(.norm,⟨[bc 5 3000320,bc 7 3000448,au 24],[bb 3000320 .i64 5 0,bb 3000448 .i64 7 0],28⟩)]
noncomputable def GG(y:PF.J):Option (aD Pn):=
 bif(!(!y.1.2.1)) then
 some (((),(),(!y.1.2.2.2.1),()),y.2.1,y.2.2.1,())
else
 some (((),(),true,()),y.2.1,y.2.2.1,())
theorem agc:aY U (an (codeOf Tryz.f204) 1 60) (a' PF Pn GG):=cW V1 (by kernel_rfl) ag fun y=>by kernel_rfl
abbrev i204:Shape:=⟨[ao 0,ao 1],[],28⟩
abbrev S3:Shape:=⟨[ae 4],[],28⟩
noncomputable def f204(a:i204.J):Option S3.J:=
(f140 ((a.1.1,()),())).bind fun b=>
(f140 ((a.1.2.1,()),())).bind fun c=>
(GG (((),b.1.2.1,(),c.1.2.1,()),b.2.1,c.2.1,())).bind fun d=>
 bif d.1.2.2.1 then
 some (((0:Int),()),())
else
(f238 ((d.2.1,d.2.2.1,()),())).bind fun e=>
 some ((e.1.1,()),())
noncomputable def U3:aH:=aP aj Tryz.f204 i204 S3 [] f204
theorem akx:aG U 204 U3:=aS V1 Tryz.func204 (by kernel_rfl) (ba agc ag) (fun y=>by kernel_rfl) fun a=>by kernel_rfl
noncomputable abbrev am4:bi:=[(204,U3)]
theorem anZ:a_ U (bg aj am4):=bf ⟨akx,⟨⟩⟩
abbrev i161:Shape:=⟨[cC 0 [ai,bq,ai],ao 1,ao 2],[],30⟩
abbrev Ts:Shape:=⟨[au 6],[],30⟩
noncomputable def f161(a:i161.J):Option Ts.J:=
 bif(!(a.1.1.1==a.1.2.1)) then
 some ((false,()),())
else
(f204 ((a.1.2.2.1,a.1.1.2.2.1,()),())).bind fun b=>
 bif(a.1.1.2.1==(1:Int)) then
 some (((b.1.1==(0:Int)),()),())
else
 bif(a.1.1.2.1==(2:Int)) then
 some (((decide (b.1.1>=(0:Int))),()),())
else
 bif(a.1.1.2.1==(3:Int)) then
 some (((decide (b.1.1<(0:Int))),()),())
else
 some ((true,()),())
noncomputable def Vp:aH:=aP aj Tryz.f161 i161 Ts [] f161
theorem akP:aG U 161 Vp:=aS anZ Tryz.func161 (by kernel_rfl) ag (fun y=>by kernel_rfl) fun a=>by kernel_rfl
abbrev i288:Shape:=⟨[ae 0],[],6⟩
abbrev Sz:Shape:=⟨[au 2],[],6⟩
noncomputable def f288(a:i288.J):Option Sz.J:=
 some (((a.1.1 !=a.1.1),()),())
noncomputable def UD:aH:=aP aj Tryz.f288 i288 Sz [] f288
theorem akc:aG U 288 UD:=aS g0 Tryz.func288 (by kernel_rfl) ag (fun y=>by kernel_rfl) fun a=>by kernel_rfl
noncomputable abbrev amr:bi:=[(288,UD)]
theorem anG:a_ U (bg aj amr):=bf ⟨akc,⟨⟩⟩
abbrev i286:Shape:=⟨[ae 0,ae 1],[],20⟩
abbrev SA:Shape:=⟨[ae 4],[],20⟩
noncomputable def f286(a:i286.J):Option SA.J:=
(f288 ((a.1.1,()),())).bind fun b=>
(f288 ((a.1.2.1,()),())).bind fun c=>
 bif b.1.1 then
 bif c.1.1 then
 some (((0:Int),()),())
else
 some ((((-1):Int),()),())
else
 bif c.1.1 then
 some (((1:Int),()),())
else
 bif(decide (a.1.1<a.1.2.1)) then
 some ((((-1):Int),()),())
else
 bif(decide (a.1.1>a.1.2.1)) then
 some (((1:Int),()),())
else
 some (((0:Int),()),())
noncomputable def UE:aH:=aP aj Tryz.f286 i286 SA [] f286
theorem akd:aG U 286 UE:=aS anG Tryz.func286 (by kernel_rfl) ag (fun y=>by kernel_rfl) fun a=>by kernel_rfl
noncomputable abbrev ams:bi:=[(286,UE)]
theorem VX:a_ U (bg aj ams):=bf ⟨akd,⟨⟩⟩
abbrev yF:Shape:=⟨[aK 0 .i64,aK 1 .i64,aK 9 .i64,ae 10,ae 11],[],36⟩
abbrev Fo:List aO:=[(.ret,⟨[ae 4],[],36⟩),(.exit 0,⟨[aK 0 .i64,aK 1 .i64],[],36⟩)]
noncomputable def uJ(y:yF.J):bR yF Fo:=
 bif(decide (y.1.2.2.2.2.1<y.1.2.2.2.1)) then
(aU y.1.2.2.1 y.1.2.2.2.2.1).bind fun a=>
 bif(decide (y.1.2.2.2.2.1>=(y.1.2.1.length:Int))) then
 some (.inr (.inl (((1:Int),()),())))
else
(aU y.1.2.1 y.1.2.2.2.2.1).bind fun b=>
(f286 ((a,b,()),())).bind fun c=>
 bif(c.1.1 !=(0:Int)) then
 some (.inr (.inl ((c.1.1,()),())))
else
 some (.inl ((y.1.1,y.1.2.1,y.1.2.2.1,y.1.2.2.2.1,(IntKind.i64.wrap (y.1.2.2.2.2.1+(1:Int))),()),()))
else
 some (.inr (.inr ((y.1.1,y.1.2.1,()),())))
noncomputable def oz:yF.J->Option (aD Fo):=bv uJ
theorem af4:aY U (an (codeOf Tryz.f281) 1 26) (a' yF Fo oz):=bT VX (by kernel_rfl) ag fun y=>by kernel_rfl
abbrev i281:Shape:=⟨[aK 0 .i64,aK 1 .i64],[],36⟩
abbrev Ig:Shape:=⟨[ae 4],[],36⟩
noncomputable def f281(a:i281.J):Option Ig.J:=
(oz ((a.1.1,a.1.2.1,a.1.1,(a.1.1.length:Int),(0:Int),()),())).bind fun b=>
(match b with
|.inl c=>
 some ((c.1.1,()),())
|.inr d=>
 bif(decide ((d.1.1.length:Int)<(d.1.2.1.length:Int))) then
 some ((((-1):Int),()),())
else
 some (((0:Int),()),()))
noncomputable def UG:aH:=aP aj Tryz.f281 i281 Ig [] f281
theorem akf:aG U 281 UG:=aS VX Tryz.func281 (by kernel_rfl) (ba af4 ag) (fun y=>by kernel_rfl) fun a=>by kernel_rfl
noncomputable abbrev amv:bi:=[(281,UG)]
theorem anI:a_ U (bg aj amv):=bf ⟨akf,⟨⟩⟩
abbrev i263:Shape:=⟨[aK 0 .i64,aK 1 .i64],[],8⟩
abbrev SH:Shape:=⟨[ae 4],[],8⟩
noncomputable def f263(a:i263.J):Option SH.J:=
(f281 ((a.1.1,a.1.2.1,()),())).bind fun b=>
 some ((b.1.1,()),())
noncomputable def UL:aH:=aP aj Tryz.f263 i263 SH [] f263
theorem akk:aG U 263 UL:=aS anI Tryz.func263 (by kernel_rfl) ag (fun y=>by kernel_rfl) fun a=>by kernel_rfl
noncomputable abbrev amA:bi:=[(151,I7),(263,UL)]
theorem VY:a_ U (bg aj amA):=bf ⟨Sk,akk,⟨⟩⟩
abbrev PD:Shape:=⟨[bc 5 3000320,au 6,bc 7 3000448,au 8],[bb 3000320 .i64 5 0,bb 3000448 .i64 7 0],28⟩
abbrev Pl:List aO:=[(.norm,⟨[bc 5 3000320,bc 7 3000448,au 24],[bb 3000320 .i64 5 0,bb 3000448 .i64 7 0],28⟩)]
noncomputable def GF(y:PD.J):Option (aD Pl):=
 bif(!(!y.1.2.1)) then
 some (((),(),(!y.1.2.2.2.1),()),y.2.1,y.2.2.1,())
else
 some (((),(),true,()),y.2.1,y.2.2.1,())
theorem af9:aY U (an (codeOf Tryz.f227) 1 60) (a' PD Pl GF):=cW VY (by kernel_rfl) ag fun y=>by kernel_rfl
abbrev i227:Shape:=⟨[ao 0,ao 1],[],28⟩
abbrev SP:Shape:=⟨[ae 4],[],28⟩
noncomputable def f227(a:i227.J):Option SP.J:=
(f151 ((a.1.1,()),())).bind fun b=>
(f151 ((a.1.2.1,()),())).bind fun c=>
(GF (((),b.2.2.2.1.1,(),c.2.2.2.1.1,()),b.2.1,c.2.1,())).bind fun d=>
 bif d.1.2.2.1 then
 some (((0:Int),()),())
else
(f263 ((d.2.1,d.2.2.1,()),())).bind fun e=>
 some ((e.1.1,()),())
noncomputable def UU:aH:=aP aj Tryz.f227 i227 SP [] f227
theorem z227:aG U 227 UU:=aS VY Tryz.func227 (by kernel_rfl) (ba af9 ag) (fun y=>by kernel_rfl) fun a=>by kernel_rfl
noncomputable abbrev amS:bi:=[(100,BF),(102,vM),(227,UU)]
theorem V4:a_ U (bg aj amS):=bf ⟨H7,Bi,z227,⟨⟩⟩
abbrev PH:Shape:=⟨[ao 1,ao 2,aM 3 3 0],[aL 3 [ai,bq,ai]],44⟩
abbrev Pp:List aO:=[(.norm,⟨[ao 2,aM 3 3 0,au 20],[aL 3 [ai,bq,ai]],44⟩)]
noncomputable def GI(y:PH.J):Option (aD Pp):=
(f102 (((y.2.1.1,y.2.1.2.1,y.2.1.2.2.1,()),()),())).bind fun a=>
 bif(!(!a.1.1)) then
(f100 ((y.1.2.1,()),())).bind fun b=>
 bif(!(!b.1.1)) then
 some ((y.1.2.1,(),(!(y.1.1==y.2.1.1)),()),(y.2.1.1,y.2.1.2.1,y.2.1.2.2.1,()),())
else
 some ((y.1.2.1,(),true,()),(y.2.1.1,y.2.1.2.1,y.2.1.2.2.1,()),())
else
 some ((y.1.2.1,(),true,()),(y.2.1.1,y.2.1.2.1,y.2.1.2.2.1,()),())
theorem agk:aY U (an (codeOf Tryz.f183) 1 12) (a' PH Pp GI):=cW V4 (by kernel_rfl) ag fun y=>by kernel_rfl
abbrev i183:Shape:=⟨[cC 0 [ai,bq,ai],ao 1,ao 2],[],44⟩
abbrev Ti:Shape:=⟨[au 6],[],44⟩
noncomputable def f183(a:i183.J):Option Ti.J:=
(GI ((a.1.2.1,a.1.2.2.1,(),()),(a.1.1.1,a.1.1.2.1,a.1.1.2.2.1,()),())).bind fun b=>
 bif b.1.2.2.1 then
 some ((false,()),())
else
 bif(b.2.1.2.1==(1:Int)) then
(f227 ((b.1.1,b.2.1.2.2.1,()),())).bind fun c=>
 some (((c.1.1==(0:Int)),()),())
else
 bif(b.2.1.2.1==(2:Int)) then
(f227 ((b.1.1,b.2.1.2.2.1,()),())).bind fun d=>
 some (((decide (d.1.1>=(0:Int))),()),())
else
 bif(b.2.1.2.1==(3:Int)) then
(f227 ((b.1.1,b.2.1.2.2.1,()),())).bind fun e=>
 some (((decide (e.1.1<(0:Int))),()),())
else
 some ((true,()),())
noncomputable def Vf:aH:=aP aj Tryz.f183 i183 Ti [] f183
theorem z183:aG U 183 Vf:=aS V4 Tryz.func183 (by kernel_rfl) (ba agk ag) (fun y=>by kernel_rfl) fun a=>by kernel_rfl
def oX:List Int->List Int->Int
 |[],[]=>0
 |[],_::_=>-1
 |_::_,[]=>1
 |x::a,y::b=>bif decide (x<y) then-1 else bif decide (x>y) then 1 else oX a b
theorem drop_cons{ax:Type}{xs:List ax}{k:Nat}{x:ax}{r:List ax}(h:xs.drop k=x::r):xs[k]? =some x/\xs.drop (k+1)=r/\k<xs.length:=by
 have h1:xs[k]? =some x:=by
  have:=congrArg (fun l=>l[0]?) h
  simpa using this
 refine⟨h1,?_,cS h1⟩;have:=congrArg List.tail h;simpa using this
theorem drop_nil{ax:Type}{xs:List ax}{k:Nat}(h:xs.drop k=[]):xs.length<=k:=by
 have:=congrArg List.length h;simp at this;omega
theorem abR(a)(h1:cR a.1.1.length)(h2:cR a.1.2.1.length)(iP:∀x,x∈a.1.1->0<=x)(iu:∀x,x∈a.1.2.1->0<=x):f238 a=some ((oX a.1.1 a.1.2.1,()),()):=by
 obtain⟨⟨xs,bd,u⟩,b5⟩:=a;have h1:xs.length<=2097152:=h1;have h2:bd.length<=2097152:=h2;have iP:∀x:Int,x∈xs->0<=x:=iP;have iu:∀x:Int,x∈bd->0<=x:=iu;have key:∀(n:Nat) (us ws:List Int) (k:Nat),us.length+ws.length=n->xs.drop k=us->bd.drop k=ws->k<=2097152->
   (nx ((xs,(bd,((k:Int),()))),())).bind (fun aly=>(match aly with|.inl alx=>some ((alx.1.1,()),())|.inr atQ=>some (((0:Int),()),()):Option Ih.J))=some ((oX us ws,()),()):=by
  intro n;induction n using Nat.strongRecOn with
  |_ n ih=>
   intro us ws k hn ha hb hk;have hw:ap k:=by unfold ap;omega
   match us,ws with
   |[],[]=>
    have c1:=drop_nil ha;have c2:=drop_nil hb;have d1:decide ((k:Int)<(xs.length:Int))=false:=by simp only[decide_eq_false_iff_not];omega
    have d2:decide ((k:Int)<(bd.length:Int))=false:=by simp only[decide_eq_false_iff_not];omega
    have:nx ((xs,(bd,((k:Int),()))),())=some (.inr ((),())):=by
     refine ca ?_
     simp only[r_,rR,d1,d2,Bool.not_false,cond_true,cond_false,Option.bind_some]
    rw[this];rfl
   |[],y::ws=>
    have c1:=drop_nil ha;obtain⟨c2,c3,c5⟩:=drop_cons hb;have hy:=iu y (List.mem_of_getElem? c2);have d1:decide ((k:Int)<(xs.length:Int))=false:=by simp only[decide_eq_false_iff_not];omega
    have d3:decide ((-1:Int)<y)=true:=by simp only[decide_eq_true_eq];omega
    have:nx ((xs,(bd,((k:Int),()))),())=some (.inl ((((-1):Int),()),())):=by
     refine ca ?_
     simp only[r_,rR,ug,uf,d1,b8 c5,bX,c2,Bool.not_false,cond_true,cond_false,Option.bind_some,d3]
    rw[this];rfl
   |x::us,[]=>
    have c1:=drop_nil hb;obtain⟨c2,c3,c5⟩:=drop_cons ha;have hx:=iP x (List.mem_of_getElem? c2);have d1:decide ((k:Int)<(bd.length:Int))=false:=by simp only[decide_eq_false_iff_not];omega
    have d3:decide (x<(-1:Int))=false:=by simp only[decide_eq_false_iff_not];omega
    have d4:decide (x>(-1:Int))=true:=by simp only[decide_eq_true_eq];omega
    have:nx ((xs,(bd,((k:Int),()))),())=some (.inl (((1:Int),()),())):=by
     refine ca ?_
     simp only[r_,rR,ug,uf,d1,b8 c5,bX,c2,Bool.not_true,cond_true,cond_false,Option.bind_some,d3,d4]
    rw[this];rfl
   |x::us,y::ws=>
    obtain⟨c2,c3,c5⟩:=drop_cons ha;obtain⟨e2,bp,c_⟩:=drop_cons hb;have step:r_ ((xs,(bd,((k:Int),()))),())=some (bif decide (x<y) then .inr (.inl ((((-1):Int),()),())) else bif decide (x>y) then .inr (.inl (((1:Int),()),())) else .inl ((xs,(bd,(((k+1:Nat):Int),()))),())):=by
     simp only[r_,rR,ug,uf,b8 c5,b8 c_,bX,c2,e2,Bool.not_true,cond_true,cond_false,Option.bind_some,bS hw];cases decide (x<y)<;>cases decide (x>y)<;>rfl
    rw[oX];cases hlt:decide (x<y) with
    |true=>rw[hlt,cond_true] at step;rw[show nx ((xs,(bd,((k:Int),()))),())=_ from ca step];rfl
    |false=>
     rw[hlt,cond_false] at step;cases qS:decide (x>y) with
     |true=>rw[qS,cond_true] at step;rw[show nx ((xs,(bd,((k:Int),()))),())=_ from ca step];rfl
     |false=>
      rw[qS,cond_false] at step;rw[show nx ((xs,(bd,((k:Int),()))),())=_ from dz step]
      exact ih (us.length+ws.length) (by simp only[List.length_cons] at hn;omega) us ws (k+1) rfl c3 bp (by omega)
 have:=key _ xs bd 0 rfl rfl rfl (Nat.zero_le _);simp only[f238];exact this
theorem adY(a):f286 a=some ((bif decide (a.1.1<a.1.2.1) then-1 else bif decide (a.1.1>a.1.2.1) then 1 else 0,()),()):=by
 obtain⟨⟨x,y,u⟩,b5⟩:=a;have hx:(x !=x)=false:=by simp
 have hy:(y !=y)=false:=by simp
 simp only[f286,f288,Option.bind_some,hx,hy,cond_false];cases decide (x<y)<;>cases decide (x>y)<;>rfl
theorem ab6(a)(h1:cR a.1.1.length)(h2:cR a.1.2.1.length):f281 a=some ((oX a.1.1 a.1.2.1,()),()):=by
 obtain⟨⟨xs,bd,u⟩,b5⟩:=a;have h1:xs.length<=2097152:=h1;have h2:bd.length<=2097152:=h2;have key:∀(us ws:List Int) (k:Nat),xs.drop k=us->bd.drop k=ws->k<=xs.length->
   (oz ((xs,(bd,(xs,((xs.length:Int),((k:Int),()))))),())).bind (fun ajt=>(match ajt with
    |.inl ajs=>some ((ajs.1.1,()),())
    |.inr RJ=>bif(decide ((RJ.1.1.length:Int)<(RJ.1.2.1.length:Int))) then some ((((-1):Int),()),()) else some (((0:Int),()),()):Option Ig.J))=some ((oX us ws,()),()):=by
  intro us;induction us with
  |nil=>
   intro ws k ha hb hk;have c1:=drop_nil ha;have d1:decide ((k:Int)<(xs.length:Int))=false:=by simp only[decide_eq_false_iff_not];omega
   have:oz ((xs,(bd,(xs,((xs.length:Int),((k:Int),()))))),())=some (.inr ((xs,(bd,())),())):=by
    refine ca ?_
    simp only[uJ,d1,cond_false]
   rw[this];simp only[Option.bind_some];cases ws with
   |nil=>
    have c2:=drop_nil hb;have:decide ((xs.length:Int)<(bd.length:Int))=false:=by simp only[decide_eq_false_iff_not];omega
    rw[this];rfl
   |cons y ws=>
    obtain⟨_,_,c5⟩:=drop_cons hb;rw[b8 (show xs.length<bd.length by omega)];rfl
  |cons x us ih=>
   intro ws k ha hb hk;obtain⟨c2,c3,c5⟩:=drop_cons ha;have hw:ap k:=by unfold ap;omega
   cases ws with
   |nil=>
    have c1:=drop_nil hb;have d1:decide ((k:Int)>=(bd.length:Int))=true:=by simp only[decide_eq_true_eq];omega
    have:oz ((xs,(bd,(xs,((xs.length:Int),((k:Int),()))))),())=some (.inl (((1:Int),()),())):=by
     refine ca ?_
     simp only[uJ,b8 c5,cond_true,bX,c2,Option.bind_some,d1]
    rw[this];rfl
   |cons y ws=>
    obtain⟨e2,bp,c_⟩:=drop_cons hb;have d1:decide ((k:Int)>=(bd.length:Int))=false:=by simp only[decide_eq_false_iff_not];omega
    have step:uJ ((xs,(bd,(xs,((xs.length:Int),((k:Int),()))))),())=some (bif decide (x<y) then .inr (.inl ((((-1):Int),()),())) else bif decide (x>y) then .inr (.inl (((1:Int),()),())) else .inl ((xs,(bd,(xs,((xs.length:Int),(((k+1:Nat):Int),()))))),())):=by
     simp only[uJ,b8 c5,bX,c2,e2,d1,cond_true,cond_false,Option.bind_some,adY,bS hw];cases decide (x<y)<;>cases decide (x>y)<;>rfl
    rw[oX];cases hlt:decide (x<y) with
    |true=>rw[hlt,cond_true] at step;rw[show oz ((xs,(bd,(xs,((xs.length:Int),((k:Int),()))))),())=_ from ca step];rfl
    |false=>
     rw[hlt,cond_false] at step;cases qS:decide (x>y) with
     |true=>rw[qS,cond_true] at step;rw[show oz ((xs,(bd,(xs,((xs.length:Int),((k:Int),()))))),())=_ from ca step];rfl
     |false=>
      rw[qS,cond_false] at step;rw[show oz ((xs,(bd,(xs,((xs.length:Int),((k:Int),()))))),())=_ from dz step]
      exact ih ws (k+1) c3 bp (by omega)
 have:=key xs bd 0 rfl rfl (Nat.zero_le _);simp only[f281];exact this
def qq(a b:F):Int:=bif d_ a&&d_ b then oX (hC a) (hC b) else 0
theorem LS{s:F}(h:d_ s=true):∀x,x∈hC s->0<=x:=by
 intro x hx;unfold hC at hx;obtain⟨p,hp,rfl⟩:=List.mem_map.1 hx;unfold d_ at h;simp only[Bool.and_eq_true] at h;have:=List.all_eq_true.1 h.1 p hp;unfold fk at this;simp only[Bool.and_eq_true] at this;exact MC p 0 this.1.1.1.1 (Int.le_refl _)
theorem xu(s:F):(hC s).length<=s.length+1:=by
 unfold hC hX;rw[List.length_map];exact ry 46 s
theorem ZF(a)(h1:a.1.1.length<=2097151)(h2:a.1.2.1.length<=2097151):f204 a=some ((qq a.1.1 a.1.2.1,()),()):=by
 obtain⟨⟨x,y,u⟩,b5⟩:=a;have h1:x.length<=2097151:=h1;have h2:y.length<=2097151:=h2;obtain⟨o1,e1,q1⟩:=Dr ((x,()),()) (show x.length<=2097152 by omega)
 obtain⟨o2,e2,q2⟩:=Dr ((y,()),()) (show y.length<=2097152 by omega)
 simp only[f204,e1,e2,Option.bind_some,GG,qq,Bool.not_not];cases hx:d_ x with
 |false=>rfl
 |true=>
  cases hy:d_ y with
  |false=>rfl
  |true=>
   have apG:=xu x;have B8:=xu y;have aN:o1=hC x:=q1 hx;have w2:o2=hC y:=q2 hy;subst aN w2;have bp:=abR ((hC x,(hC y,())),()) (show(hC x).length<=2097152 by omega) (show(hC y).length<=2097152 by omega) (LS hx) (LS hy)
   simp only[cond_true,Bool.not_true,Option.bind_some,cond_false,bp,Bool.and_self]
theorem ZA(a)(h1:a.1.1.length<=2097151)(h2:a.1.2.1.length<=2097151):f227 a=some ((qq a.1.1 a.1.2.1,()),()):=by
 obtain⟨⟨x,y,u⟩,b5⟩:=a;have h1:x.length<=2097151:=h1;have h2:y.length<=2097151:=h2;have e1:=CV ((x,()),()) (show x.length<=2097152 by omega)
 have e2:=CV ((y,()),()) (show y.length<=2097152 by omega)
 simp only[f227,e1,e2,Option.bind_some,GF,qq,Bool.not_not];cases hx:d_ x with
 |false=>rfl
 |true=>
  cases hy:d_ y with
  |false=>rfl
  |true=>
   have apG:=xu x;have B8:=xu y;have bp:=ab6 ((hC x,(hC y,())),()) (show(hC x).length<=2097152 by omega) (show(hC y).length<=2097152 by omega)
   simp only[cond_true,Bool.not_true,Option.bind_some,cond_false,f263,bp,Bool.and_self]
def sO(n:bB)(v:F):Bool:=bif n.kind==1 then qq v n.aV==0 else bif n.kind==2 then decide (qq v n.aV>=0) else bif n.kind==3 then decide (qq v n.aV<0) else true
theorem adN(a)(h1:a.1.1.2.2.1.length<=2097151)(h2:a.1.2.2.1.length<=2097151)(hn:a.1.2.1=a.1.1.1):f161 a=some ((sO ⟨a.1.1.1,a.1.1.2.1,a.1.1.2.2.1⟩ a.1.2.2.1,()),()):=by
 obtain⟨⟨⟨n,k,v,u⟩,m,w,b5⟩,j8⟩:=a;obtain rfl:m=n:=hn;have e1:=ZF ((w,(v,())),()) h2 h1;have eI:(m==m)=true:=by simp
 simp only[f161,eI,e1,Bool.not_true,cond_false,Option.bind_some,sO];cases (k==1)<;>cases (k==2)<;>cases (k==3)<;>rfl
def la(n:bB)(name v:F):Bool:=du n&&d_ v&&(name==n.name)&&sO n v
theorem aaK(a)(h0:cR a.1.1.1.length)(h1:a.1.1.2.2.1.length<=2097151)(h2:a.1.2.2.1.length<=2097151):f183 a=some ((la ⟨a.1.1.1,a.1.1.2.1,a.1.1.2.2.1⟩ a.1.2.1 a.1.2.2.1,()),()):=by
 obtain⟨⟨⟨n,k,v,u⟩,m,w,b5⟩,j8⟩:=a;have h1:v.length<=2097151:=h1;have h2:w.length<=2097151:=h2;have e1:=ZA ((w,(v,())),()) h2 h1;have e2:=xy (((n,(k,(v,()))),()),()) h0 (show v.length<=2097152 by omega)
 have bp:=CY ((w,()),()) (show w.length<=2097152 by omega)
 simp only[f183,GI,e1,e2,bp,Bool.not_not,Option.bind_some,la,sO];cases du ⟨n,k,v⟩ with
 |false=>rfl
 |true=>
  cases d_ w with
  |false=>rfl
  |true=>
   cases (m==n) with
   |false=>rfl
   |true=>
    simp only[cond_true,Bool.not_true,Option.bind_some,cond_false,Bool.true_and];cases (k==1)<;>cases (k==2)<;>cases (k==3)<;>simp only[cond_true,cond_false,Option.bind_some,e1]
abbrev yT:Shape:=⟨[aK 0 .pack,ao 1,ae 5],[],20⟩
abbrev FB:List aO:=[(.ret,⟨[ae 4],[],20⟩),(.exit 0,⟨[],[],20⟩)]
noncomputable def zw(y:yT.J):bR yT FB:=
 bif(decide (y.1.2.2.1<(y.1.1.length:Int))) then
(aU y.1.1 y.1.2.2.1).bind fun a=>
 bif(a.name==y.1.2.1) then
 some (.inr (.inl ((y.1.2.2.1,()),())))
else
 some (.inl ((y.1.1,y.1.2.1,(IntKind.i64.wrap (y.1.2.2.1+(1:Int))),()),()))
else
 some (.inr (.inr ((),())))
noncomputable def rZ:yT.J->Option (aD FB):=bv zw
theorem agr:aY U (an (codeOf Tryz.f160) 1 26) (a' yT FB rZ):=bT g0 (by kernel_rfl) ag fun y=>by kernel_rfl
abbrev i160:Shape:=⟨[aK 0 .pack,ao 1],[],20⟩
abbrev Tt:Shape:=⟨[ae 4],[],20⟩
noncomputable def f160(a:i160.J):Option Tt.J:=
(rZ ((a.1.1,a.1.2.1,(0:Int),()),())).bind fun b=>
(match b with
|.inl c=>
 some ((c.1.1,()),())
|.inr d=>
 some ((((-1):Int),()),()))
noncomputable def Vq:aH:=aP aj Tryz.f160 i160 Tt [] f160
theorem z160:aG U 160 Vq:=aS g0 Tryz.func160 (by kernel_rfl) (ba agr ag) (fun y=>by kernel_rfl) fun a=>by kernel_rfl
noncomputable abbrev anA:bi:=[(160,Vq),(161,Vp)]
theorem BN:a_ U (bg aj anA):=bf ⟨z160,akP,⟨⟩⟩
abbrev Ml:Shape:=⟨[aK 0 .pack,ae 3,ae 4,aM 5 5 0,ae 6],[aL 5 [ai,bq,ai]],49⟩
abbrev Mf:List aO:=[(.norm,⟨[aK 0 .pack,ae 3,ae 4,ae 35,au 36,au 37,au 48],[],49⟩)]
noncomputable def xd(y:Ml.J):Option (aD Mf):=
 bif(decide (y.1.2.2.2.2.1<(0:Int))) then
 some ((y.1.1,y.1.2.1,y.1.2.2.1,y.1.2.2.2.2.1,(decide (y.1.2.2.2.2.1<(0:Int))),true,true,()),())
else
(aU y.1.1 y.1.2.2.2.2.1).bind fun a=>
(f161 (((y.2.1.1,y.2.1.2.1,y.2.1.2.2.1,()),y.2.1.1,a.aV,()),())).bind fun b=>
 some ((y.1.1,y.1.2.1,y.1.2.2.1,y.1.2.2.2.2.1,(decide (y.1.2.2.2.2.1<(0:Int))),false,(!b.1.1),()),())
theorem _3:aY U (an (da (an (da (an (codeOf Tryz.f110) 1 26)) 52 1682)) 3364 215334) (a' Ml Mf xd):=cW BN (by kernel_rfl) ag fun y=>by kernel_rfl
abbrev xL:Shape:=⟨[aK 0 .pack,ae 3,ae 4],[],49⟩
abbrev DB:List aO:=[(.ret,⟨[au 2],[],49⟩),(.exit 2,⟨[aK 0 .pack,ae 3],[],49⟩)]
noncomputable def xV(y:xL.J):bR xL DB:=
(aU y.1.1 y.1.2.1).bind fun a=>
 bif(decide (y.1.2.2.1<(a.bl.length:Int))) then
(aU y.1.1 y.1.2.1).bind fun b=>
(aU b.bl y.1.2.2.1).bind fun c=>
(f160 ((y.1.1,c.name,()),())).bind fun d=>
(xd ((y.1.1,y.1.2.1,y.1.2.2.1,(),d.1.1,()),(c.name,c.kind,c.aV,()),())).bind fun e=>
 bif e.1.2.2.2.2.2.2.1 then
 some (.inr (.inl ((false,()),())))
else
 some (.inl ((e.1.1,e.1.2.1,(IntKind.i64.wrap (e.1.2.2.1+(1:Int))),()),()))
else
 some (.inr (.inr ((y.1.1,y.1.2.1,()),())))
noncomputable def DV:xL.J->Option (aD DB):=bv xV
theorem acO:aY U (an (da (an (codeOf Tryz.f110) 1 26)) 52 1682) (a' xL DB DV):=bT BN (by kernel_rfl) (ba _3 ag) fun y=>by kernel_rfl
abbrev y9:Shape:=⟨[aK 0 .pack,ae 3],[],49⟩
abbrev FQ:List aO:=[(.ret,⟨[au 2],[],49⟩),(.exit 0,⟨[],[],49⟩)]
noncomputable def zI(y:y9.J):bR y9 FQ:=
 bif(decide (y.1.2.1<(y.1.1.length:Int))) then
(DV ((y.1.1,y.1.2.1,(0:Int),()),())).bind fun a=>
(match a with
|.inl b=>
 some (.inr (.inl ((b.1.1,()),())))
|.inr c=>
 some (.inl ((c.1.1,(IntKind.i64.wrap (c.1.2.1+(1:Int))),()),())))
else
 some (.inr (.inr ((),())))
noncomputable def Gq:y9.J->Option (aD FQ):=bv zI
theorem agK:aY U (an (codeOf Tryz.f110) 1 26) (a' y9 FQ Gq):=bT BN (by kernel_rfl) (ba acO ag) fun y=>by kernel_rfl
abbrev i110:Shape:=⟨[aK 0 .pack],[],49⟩
abbrev T0:Shape:=⟨[au 2],[],49⟩
noncomputable def f110(a:i110.J):Option T0.J:=
(Gq ((a.1.1,(0:Int),()),())).bind fun b=>
(match b with
|.inl c=>
 some ((c.1.1,()),())
|.inr d=>
 some ((true,()),()))
noncomputable def VU:aH:=aP aj Tryz.f110 i110 T0 [] f110
theorem ak5:aG U 110 VU:=aS BN Tryz.func110 (by kernel_rfl) (ba agK ag) (fun y=>by kernel_rfl) fun a=>by kernel_rfl
noncomputable abbrev aiY:bi:=[(54,Sa),(56,Ye)]
theorem Ry:a_ U (bg aj aiY):=bf ⟨ai9,aop,⟨⟩⟩
abbrev NA:Shape:=⟨[(0,.ak (.ev [.sl .pack] 0))],[],10⟩
abbrev Nh:List aO:=[(.norm,⟨[au 9],[],10⟩)]
noncomputable def D5(y:NA.J):Option (aD Nh):=
(A8 ((y.1.1.1,(),()),())).bind fun a=>
 bif(!(!a.1.1)) then
(f56 ((y.1.1.1,()),())).bind fun b=>
 some (((!b.1.1),()),())
else
 some ((true,()),())
theorem acJ:aY U (an (codeOf Tryz.f128) 1 12) (a' NA Nh D5):=cW Ry (by kernel_rfl) ag fun y=>by kernel_rfl
abbrev Q9:Shape:=⟨[(0,.ak (.ev [.sl .pack] 0))],[],10⟩
abbrev QU:Shape:=⟨[ae 1],[],10⟩
noncomputable def sw(a:Q9.J):Option QU.J:=
(D5 (((a.1.1.1,()),()),())).bind fun b=>
 bif b.1.1 then
 some (((1:Int),()),())
else
 some (((0:Int),()),())
noncomputable def Rs:aH:=aP aj Tryz.f128 Q9 QU [] sw
theorem ahz:aG U 128 Rs:=aS Ry Tryz.func128 (by kernel_rfl) (ba acJ ag) (fun y=>by kernel_rfl) fun a=>by kernel_rfl
abbrev Q8:Shape:=⟨[(0,.ak (.ev [.sl .pack] 0))],[],5⟩
abbrev QT:Shape:=⟨[ae 1],[],5⟩
noncomputable def sv(a:Q8.J):Option QT.J:=
 bif(decide ((a.1.1.1.length:Int)>(5:Int))) then
 some (((6:Int),()),())
else
 some (((0:Int),()),())
noncomputable def Rr:aH:=aP aj Tryz.f129 Q8 QT [] sv
theorem ahy:aG U 129 Rr:=aS g0 Tryz.func129 (by kernel_rfl) ag (fun y=>by kernel_rfl) fun a=>by kernel_rfl
noncomputable abbrev aiV:bi:=[(183,Vf)]
theorem ai2:a_ U (bg aj aiV):=bf ⟨z183,⟨⟩⟩
abbrev Q5:Shape:=⟨[cC 0 [ai,ai,c4 .need,c4 .entry],(1,.ak (.ev [.str,.int .i64,.str] 0))],[],10⟩
abbrev QQ:Shape:=⟨[au 3],[],10⟩
noncomputable def HH(a:Q5.J):Option QQ.J:=
(f183 (((a.1.2.1.1,a.1.2.1.2.1,a.1.2.1.2.2.1,()),a.1.1.1,a.1.1.2.1,()),())).bind fun b=>
 some ((b.1.1,()),())
noncomputable def Ro:aH:=aP aj Tryz.f182 Q5 QQ [] HH
theorem ahv:aG U 182 Ro:=aS ai2 Tryz.func182 (by kernel_rfl) ag (fun y=>by kernel_rfl) fun a=>by kernel_rfl
noncomputable abbrev aiT:bi:=[(182,Ro)]
theorem Rx:a_ U (bg aj aiT):=bf ⟨ahv,⟨⟩⟩
abbrev xF:Shape:=⟨[aK 0 .pack,(1,.ak (.fn 182 [[.str,.int .i64,.str]])),ae 7,ae 8],[],19⟩
abbrev Dv:List aO:=[(.ret,⟨[ae 4],[],19⟩),(.exit 0,⟨[],[],19⟩)]
noncomputable def xQ(y:xF.J):bR xF Dv:=
 bif(decide (y.1.2.2.2.1<y.1.2.2.1)) then
(aU y.1.1 y.1.2.2.2.1).bind fun a=>
(HH (((a.name,a.aV,a.bl,a.bQ,()),(y.1.2.1.1.1,y.1.2.1.1.2.1,y.1.2.1.1.2.2.1,()),()),())).bind fun b=>
 bif b.1.1 then
 some (.inr (.inl ((y.1.2.2.2.1,()),())))
else
 some (.inl ((y.1.1,((y.1.2.1.1.1,y.1.2.1.1.2.1,y.1.2.1.1.2.2.1,()),()),y.1.2.2.1,(IntKind.i64.wrap (y.1.2.2.2.1+(1:Int))),()),()))
else
 some (.inr (.inr ((),())))
noncomputable def rI:xF.J->Option (aD Dv):=bv xQ
theorem acz:aY U (an (codeOf Tryz.f228) 1 26) (a' xF Dv rI):=bT Rx (by kernel_rfl) ag fun y=>by kernel_rfl
abbrev Q3:Shape:=⟨[aK 0 .pack,(1,.ak (.fn 182 [[.str,.int .i64,.str]]))],[],19⟩
abbrev Hd:Shape:=⟨[ae 4],[],19⟩
noncomputable def AI(a:Q3.J):Option Hd.J:=
(rI ((a.1.1,((a.1.2.1.1.1,a.1.2.1.1.2.1,a.1.2.1.1.2.2.1,()),()),(a.1.1.length:Int),(0:Int),()),())).bind fun b=>
(match b with
|.inl c=>
 some ((c.1.1,()),())
|.inr d=>
 some ((((-1):Int),()),()))
noncomputable def Rm:aH:=aP aj Tryz.f228 Q3 Hd [] AI
theorem aht:aG U 228 Rm:=aS Rx Tryz.func228 (by kernel_rfl) (ba acz ag) (fun y=>by kernel_rfl) fun a=>by kernel_rfl
noncomputable abbrev aiU:bi:=[(228,Rm)]
theorem ai1:a_ U (bg aj aiU):=bf ⟨aht,⟨⟩⟩
abbrev Q4:Shape:=⟨[aK 0 .pack,(1,.ak (.fn 182 [[.str,.int .i64,.str]]))],[],9⟩
abbrev QP:Shape:=⟨[au 4],[],9⟩
noncomputable def AJ(a:Q4.J):Option QP.J:=
(AI ((a.1.1,((a.1.2.1.1.1,a.1.2.1.1.2.1,a.1.2.1.1.2.2.1,()),()),()),())).bind fun b=>
 some (((decide (b.1.1>=(0:Int))),()),())
noncomputable def Rn:aH:=aP aj Tryz.f184 Q4 QP [] AJ
theorem ahu:aG U 184 Rn:=aS ai1 Tryz.func184 (by kernel_rfl) ag (fun y=>by kernel_rfl) fun a=>by kernel_rfl
noncomputable abbrev ano:bi:=[(184,Rn)]
theorem Jh:a_ U (bg aj ano):=bf ⟨ahu,⟨⟩⟩
abbrev xI:Shape:=⟨[aK 0 .pack,aK 8 .pack,ae 9,ae 10,aK 15 .need,ae 16,ae 17],[],28⟩
abbrev Dy:List aO:=[(.ret,⟨[au 2],[],28⟩),(.exit 2,⟨[aK 0 .pack,aK 8 .pack,ae 9,ae 10],[],28⟩)]
noncomputable def xT(y:xI.J):bR xI Dy:=
 bif(decide (y.1.2.2.2.2.2.2.1<y.1.2.2.2.2.2.1)) then
(aU y.1.2.2.2.2.1 y.1.2.2.2.2.2.2.1).bind fun a=>
(AJ ((y.1.1,((a.name,a.kind,a.aV,()),()),()),())).bind fun b=>
 bif(!b.1.1) then
 some (.inr (.inl ((false,()),())))
else
 some (.inl ((y.1.1,y.1.2.1,y.1.2.2.1,y.1.2.2.2.1,y.1.2.2.2.2.1,y.1.2.2.2.2.2.1,(IntKind.i64.wrap (y.1.2.2.2.2.2.2.1+(1:Int))),()),()))
else
 some (.inr (.inr ((y.1.1,y.1.2.1,y.1.2.2.1,y.1.2.2.2.1,()),())))
noncomputable def DS:xI.J->Option (aD Dy):=bv xT
theorem acI:aY U (an (da (an (codeOf Tryz.f131) 1 26)) 52 6758) (a' xI Dy DS):=bT Jh (by kernel_rfl) ag fun y=>by kernel_rfl
abbrev y4:Shape:=⟨[aK 0 .pack,aK 8 .pack,ae 9,ae 10],[],28⟩
abbrev FL:List aO:=[(.ret,⟨[au 2],[],28⟩),(.exit 0,⟨[],[],28⟩)]
noncomputable def zG(y:y4.J):bR y4 FL:=
 bif(decide (y.1.2.2.2.1<y.1.2.2.1)) then
(aU y.1.2.1 y.1.2.2.2.1).bind fun a=>
(DS ((y.1.1,y.1.2.1,y.1.2.2.1,y.1.2.2.2.1,a.bl,(a.bl.length:Int),(0:Int),()),())).bind fun b=>
(match b with
|.inl c=>
 some (.inr (.inl ((c.1.1,()),())))
|.inr d=>
 some (.inl ((d.1.1,d.1.2.1,d.1.2.2.1,(IntKind.i64.wrap (d.1.2.2.2.1+(1:Int))),()),())))
else
 some (.inr (.inr ((),())))
noncomputable def Gn:y4.J->Option (aD FL):=bv zG
theorem agE:aY U (an (codeOf Tryz.f131) 1 26) (a' y4 FL Gn):=bT Jh (by kernel_rfl) (ba acI ag) fun y=>by kernel_rfl
abbrev i131:Shape:=⟨[aK 0 .pack],[],28⟩
abbrev TP:Shape:=⟨[au 2],[],28⟩
noncomputable def f131(a:i131.J):Option TP.J:=
(Gn ((a.1.1,a.1.1,(a.1.1.length:Int),(0:Int),()),())).bind fun b=>
(match b with
|.inl c=>
 some ((c.1.1,()),())
|.inr d=>
 some ((true,()),()))
noncomputable def VL:aH:=aP aj Tryz.f131 i131 TP [] f131
theorem z131:aG U 131 VL:=aS Jh Tryz.func131 (by kernel_rfl) (ba agE ag) (fun y=>by kernel_rfl) fun a=>by kernel_rfl
noncomputable abbrev aiX:bi:=[(131,VL)]
theorem ai4:a_ U (bg aj aiX):=bf ⟨z131,⟨⟩⟩
abbrev Q7:Shape:=⟨[(0,.ak (.ev [.sl .pack] 0))],[],5⟩
abbrev QS:Shape:=⟨[ae 1],[],5⟩
noncomputable def su(a:Q7.J):Option QS.J:=
(f131 ((a.1.1.1,()),())).bind fun b=>
 bif(!b.1.1) then
 some (((4:Int),()),())
else
 some (((0:Int),()),())
noncomputable def Rq:aH:=aP aj Tryz.f130 Q7 QS [] su
theorem ahx:aG U 130 Rq:=aS ai4 Tryz.func130 (by kernel_rfl) ag (fun y=>by kernel_rfl) fun a=>by kernel_rfl
noncomputable abbrev aiW:bi:=[(133,VK)]
theorem ai3:a_ U (bg aj aiW):=bf ⟨ak0,⟨⟩⟩
abbrev Q6:Shape:=⟨[(0,.ak (.ev [.sl .pack] 0))],[],11⟩
abbrev QR:Shape:=⟨[ae 1],[],11⟩
noncomputable def ss(a:Q6.J):Option QR.J:=
(f133 ((a.1.1.1,()),())).bind fun b=>
 bif(!b.1.2.1) then
 some (((5:Int),()),())
else
 some (((0:Int),()),())
noncomputable def Rp:aH:=aP aj Tryz.f132 Q6 QR [] ss
theorem ahw:aG U 132 Rp:=aS ai3 Tryz.func132 (by kernel_rfl) ag (fun y=>by kernel_rfl) fun a=>by kernel_rfl
noncomputable abbrev arE:bi:=[(50,KK),(109,VV),(110,VU)]
theorem KQ:a_ U (bg aj arE):=bf ⟨Wp,z109,ak5,⟨⟩⟩
abbrev PB:Shape:=⟨[aK 0 .pack,ae 3],[],52⟩
abbrev Pj:List aO:=[(.norm,⟨[aK 0 .pack,ae 3,aK 12 .pack,ae 13,(14,.ak (.ev [.str,.str,.sl .need,.sl .entry] 0)),cC 15 [ai,ai,c4 .need,c4 .entry],au 16,au 17,au 18,au 35],[],52⟩)]
noncomputable def GB(y:PB.J):Option (aD Pj):=
(aU y.1.1 y.1.2.1).bind fun a=>
(f50 (((a.name,a.aV,a.bl,a.bQ,()),()),())).bind fun b=>
 bif(!b.1.1) then
 some ((y.1.1,y.1.2.1,y.1.1,y.1.2.1,(a.name,a.aV,a.bl,a.bQ,()),(a.name,a.aV,a.bl,a.bQ,()),b.1.1,(!b.1.1),true,true,()),())
else
 bif(decide (y.1.2.1>(0:Int))) then
(aU y.1.1 (IntKind.i64.wrap (y.1.2.1-(1:Int)))).bind fun c=>
(aU y.1.1 y.1.2.1).bind fun d=>
 some ((y.1.1,y.1.2.1,y.1.1,y.1.2.1,(a.name,a.aV,a.bl,a.bQ,()),(a.name,a.aV,a.bl,a.bQ,()),b.1.1,(!b.1.1),false,(!(Op.bytesLess c.name d.name)),()),())
else
 some ((y.1.1,y.1.2.1,y.1.1,y.1.2.1,(a.name,a.aV,a.bl,a.bQ,()),(a.name,a.aV,a.bl,a.bQ,()),b.1.1,(!b.1.1),false,false,()),())
theorem af0:aY U (an (da (an (codeOf Tryz.f60) 1 26)) 52 840) (a' PB Pj GB):=cW KQ (by kernel_rfl) ag fun y=>by kernel_rfl
abbrev Ae:Shape:=⟨[aK 0 .pack,ae 3],[],52⟩
abbrev G6:List aO:=[(.ret,⟨[ae 2],[],52⟩),(.exit 0,⟨[aK 0 .pack],[],52⟩)]
noncomputable def AC(y:Ae.J):bR Ae G6:=
 bif(decide (y.1.2.1<(y.1.1.length:Int))) then
(GB ((y.1.1,y.1.2.1,()),())).bind fun a=>
 bif a.1.2.2.2.2.2.2.2.2.2.1 then
 some (.inr (.inl (((1:Int),()),())))
else
 some (.inl ((a.1.1,(IntKind.i64.wrap (a.1.2.1+(1:Int))),()),()))
else
 some (.inr (.inr ((y.1.1,()),())))
noncomputable def Hq:Ae.J->Option (aD G6):=bv AC
theorem ah9:aY U (an (codeOf Tryz.f60) 1 26) (a' Ae G6 Hq):=bT KQ (by kernel_rfl) (ba af0 ag) fun y=>by kernel_rfl
abbrev i60:Shape:=⟨[aK 0 .pack],[],52⟩
abbrev WT:Shape:=⟨[ae 2],[],52⟩
noncomputable def f60(a:i60.J):Option WT.J:=
(Hq ((a.1.1,(0:Int),()),())).bind fun b=>
(match b with
|.inl c=>
 some ((c.1.1,()),())
|.inr d=>
(f109 ((d.1.1,()),())).bind fun e=>
 bif(decide ((d.1.1.length:Int)>(5:Int))) then
 some (((6:Int),()),())
else
(f110 ((d.1.1,()),())).bind fun f=>
 bif(!f.1.1) then
 some (((4:Int),()),())
else
 bif(!e.1.2.1) then
 some (((5:Int),()),())
else
 some (((0:Int),()),()))
noncomputable def Yd:aH:=aP aj Tryz.f60 i60 WT [] f60
theorem aoo:aG U 60 Yd:=aS KQ Tryz.func60 (by kernel_rfl) (ba ah9 ag) (fun y=>by kernel_rfl) fun a=>by kernel_rfl
noncomputable abbrev arS:bi:=[(60,Yd)]
theorem asc:a_ U (bg aj arS):=bf ⟨aoo,⟨⟩⟩
abbrev i30:Shape:=⟨[cC 0 [c4 .pack]],[],7⟩
abbrev W7:Shape:=⟨[au 2],[],7⟩
noncomputable def f30(a:i30.J):Option W7.J:=
(f60 ((a.1.1.1,()),())).bind fun b=>
 some (((b.1.1==(0:Int)),()),())
noncomputable def Cx:aH:=aP aj Tryz.f30 i30 W7 [] f30
theorem Jr:aG U 30 Cx:=aS asc Tryz.func30 (by kernel_rfl) ag (fun y=>by kernel_rfl) fun a=>by kernel_rfl
noncomputable abbrev tH:bi:=[(128,Rs),(129,Rr),(130,Rq),(132,Rp)]
theorem Yy:a_ U (bg aj tH):=bf ⟨ahz,ahy,ahx,ahw,⟨⟩⟩
abbrev RH:Shape:=⟨[aM 1 1 0],[aL 1 [c4 .pack]],24⟩
abbrev oN:List aO:=[(.ret,⟨[ae 2],[],24⟩)]
noncomputable def qg(c:Int):aD oN:=((c,()),())
noncomputable def HY(y:RH.J):Option (aD oN):=
 qe y.2.1.1 qg [fun ps=>sw (((ps,()),()),()),fun ps=>sv (((ps,()),()),()),fun ps=>su (((ps,()),()),()),fun ps=>ss (((ps,()),()),())]
theorem ajd:∀ps k i,exec (gK (bg aj tH) []) (an (da (an (codeOf Tryz.f81) 1 58)) 116 3737) 3737 (((gh 24).st (gZ 24 ps k i)).set 5 (bZ (.clo 128 [(1,0)]))) (qh 24 oN)=((fun ps=>sw (((ps,()),()),())) ps).bind fun r=>bif(r.1.1 !=0) then some (.inr (qg r.1.1)) else some (.inl (gZ 24 ps k i)):=fun ps k i=>by kernel_rfl
theorem ajc:∀ps k i,exec (gK (bg aj tH) []) (an (da (an (codeOf Tryz.f81) 1 58)) 116 3737) 3737 (((gh 24).st (gZ 24 ps k i)).set 5 (bZ (.clo 129 [(1,0)]))) (qh 24 oN)=((fun ps=>sv (((ps,()),()),())) ps).bind fun r=>bif(r.1.1 !=0) then some (.inr (qg r.1.1)) else some (.inl (gZ 24 ps k i)):=fun ps k i=>by kernel_rfl
theorem ajb:∀ps k i,exec (gK (bg aj tH) []) (an (da (an (codeOf Tryz.f81) 1 58)) 116 3737) 3737 (((gh 24).st (gZ 24 ps k i)).set 5 (bZ (.clo 130 [(1,0)]))) (qh 24 oN)=((fun ps=>su (((ps,()),()),())) ps).bind fun r=>bif(r.1.1 !=0) then some (.inr (qg r.1.1)) else some (.inl (gZ 24 ps k i)):=fun ps k i=>by kernel_rfl
theorem aja:∀ps k i,exec (gK (bg aj tH) []) (an (da (an (codeOf Tryz.f81) 1 58)) 116 3737) 3737 (((gh 24).st (gZ 24 ps k i)).set 5 (bZ (.clo 132 [(1,0)]))) (qh 24 oN)=((fun ps=>ss (((ps,()),()),())) ps).bind fun r=>bif(r.1.1 !=0) then some (.inr (qg r.1.1)) else some (.inl (gZ 24 ps k i)):=fun ps k i=>by kernel_rfl
theorem aju:aY U (an (codeOf Tryz.f81) 1 3) (a' RH oN HY):=
 aap (C:=gK (bg aj tH) []) (os:=oN) (nt:=24) (T:=165) (e:=164) (m0:=((opsOf (an (codeOf Tryz.f81) 1 6)).getD 0 default)) (m1:=((opsOf (an (codeOf Tryz.f81) 1 6)).getD 1 default)) (m2:=((opsOf (an (codeOf Tryz.f81) 1 6)).getD 2 default)) (m3:=((opsOf (an (codeOf Tryz.f81) 1 6)).getD 3 default)) (m4:=((opsOf (an (codeOf Tryz.f81) 1 6)).getD 4 default)) (m5:=((opsOf (an (codeOf Tryz.f81) 1 6)).getD 5 default)) (n0:=((opsOf (an (codeOf Tryz.f81) 1 28)).getD 0 default)) (n1:=((opsOf (an (codeOf Tryz.f81) 1 28)).getD 1 default)) (n2:=((opsOf (an (codeOf Tryz.f81) 1 28)).getD 2 default)) (q0:=((opsOf (an (da (an (codeOf Tryz.f81) 1 58)) 116 232)).getD 0 default)) (r0:=((opsOf (an (da (an (codeOf Tryz.f81) 1 58)) 116 3736)).getD 0 default)) (r1:=((opsOf (an (da (an (codeOf Tryz.f81) 1 58)) 116 3736)).getD 1 default)) (r2:=((opsOf (an (da (an (codeOf Tryz.f81) 1 58)) 116 3736)).getD 2 default))
  (i1:=sC (an (codeOf Tryz.f81) 1 6)) (i2:=sC (an (codeOf Tryz.f81) 1 28)) (i3:=sC (an (da (an (codeOf Tryz.f81) 1 58)) 116 232)) (i4:=sC (an (da (an (codeOf Tryz.f81) 1 58)) 116 3736)) (BB:=(an (da (an (codeOf Tryz.f81) 1 58)) 116 3737)) (r8:=(an (da (an (codeOf Tryz.f81) 1 58)) 116 935)) (E:=(an (codeOf Tryz.f81) 1 15)) (p3:=232) (pB:=3737) (p8:=935) (pE:=15) (g0:=128) (g1:=129) (g2:=130) (g3:=132) (c0:=fun ps=>sw (((ps,()),()),())) (c1:=fun ps=>sv (((ps,()),()),())) (c2:=fun ps=>su (((ps,()),()),())) (c3:=fun ps=>ss (((ps,()),()),())) (mk:=qg) Yy
  {qC:=(by kernel_rfl),Ju:=(by kernel_rfl),bf:=⟨(by kernel_rfl),(by kernel_rfl),(by kernel_rfl),(by kernel_rfl),(by kernel_rfl),(by kernel_rfl),(by kernel_rfl),(by kernel_rfl),(by kernel_rfl),(by kernel_rfl),(by kernel_rfl),(by kernel_rfl)⟩,K4:=⟨(by kernel_rfl),(by kernel_rfl)⟩,on:=⟨(by kernel_rfl),(by kernel_rfl),(by kernel_rfl)⟩,BY:=⟨(by kernel_rfl),(by kernel_rfl),(by kernel_rfl)⟩,dst:=⟨(by kernel_rfl),(by kernel_rfl),(by kernel_rfl),(by kernel_rfl),(by kernel_rfl),(by kernel_rfl),(by kernel_rfl),(by kernel_rfl)⟩,Io:=(by decide),JA:=(by kernel_rfl),Xf:=(by kernel_rfl),Xe:=(by kernel_rfl),wr:=(by kernel_rfl),aoN:=(by kernel_rfl),
   kr:=⟨(fun f hf=>by cases hf),kX (by kernel_rfl) ag,kX (by kernel_rfl) ag,kX (by kernel_rfl) ag⟩,hos:=(fun _ _=>rfl),aw:=(fun ps=>by kernel_rfl),vy:=(fun ps k i=>by kernel_rfl),hlt:=(fun ps k i=>by kernel_rfl),
   hB:=(fun gc h=>by
    simp only[List.mem_cons,List.not_mem_nil,or_false] at h;rcases h with rfl|rfl|rfl|rfl
    ·exact ajd
    ·exact ajc
    ·exact ajb
    ·exact aja),
   h8:=(fun ps k i=>by kernel_rfl),hE:=(fun ps k i=>by kernel_rfl)} (fun ps=>rfl) (by kernel_rfl)
abbrev i81:Shape:=⟨[aK 0 .pack],[],24⟩
abbrev WL:Shape:=⟨[ae 2],[],24⟩
noncomputable def f81(a:i81.J):Option WL.J:=
(HY (((),()),(a.1.1,()),())).bind fun b=>
 some ((b.1.1,()),())
noncomputable def X8:aH:=aP aj Tryz.f81 i81 WL [] f81
theorem aoj:aG U 81 X8:=aS Yy Tryz.func81 (by kernel_rfl) (ba aju ag) (fun y=>by kernel_rfl) fun a=>by kernel_rfl
noncomputable abbrev arM:bi:=[(81,X8)]
theorem ar9:a_ U (bg aj arM):=bf ⟨aoj,⟨⟩⟩
abbrev i43:Shape:=⟨[cC 0 [c4 .pack]],[],7⟩
abbrev W3:Shape:=⟨[au 2],[],7⟩
noncomputable def f43(a:i43.J):Option W3.J:=
(f81 ((a.1.1.1,()),())).bind fun b=>
 some (((b.1.1==(0:Int)),()),())
noncomputable def Cw:aH:=aP aj Tryz.f43 i43 W3 [] f43
theorem Jq:aG U 43 Cw:=aS ar9 Tryz.func43 (by kernel_rfl) ag (fun y=>by kernel_rfl) fun a=>by kernel_rfl
theorem adL(a)(hs:cR a.1.1.length):(∃(k:Nat) (q:aW),f160 a=some (((k:Int),()),())/\a.1.1[k]? =some q/\a.1.1.find? (fun p=>p.name==a.1.2.1)=some q)\/
  (f160 a=some ((((-1):Int),()),())/\a.1.1.find? (fun p=>p.name==a.1.2.1)=none):=by
 obtain⟨⟨ps,name,u⟩,b5⟩:=a;have hs:ps.length<=2097152:=hs;have key:∀(r:List aW) (k:Nat),ps.drop k=r->k<=ps.length->(∃(j:Nat) (q:aW),rZ ((ps,(name,((k:Int),()))),())=some (.inl (((j:Int),()),()))/\ps[j]? =some q/\r.find? (fun p=>p.name==name)=some q)\/
   (rZ ((ps,(name,((k:Int),()))),())=some (.inr ((),()))/\r.find? (fun p=>p.name==name)=none):=by
  intro r;induction r with
  |nil=>
   intro k hr hk;have:=drop_nil hr;have d1:decide ((k:Int)<(ps.length:Int))=false:=by simp only[decide_eq_false_iff_not];omega
   refine .inr ⟨ca ?_,rfl⟩;simp only[zw,d1,cond_false]
  |cons q r ih=>
   intro k hr hk;obtain⟨c1,c2,c3⟩:=drop_cons hr;have hw:ap k:=by unfold ap;omega
   have step:zw ((ps,(name,((k:Int),()))),())=some (bif q.name==name then .inr (.inl (((k:Int),()),())) else .inl ((ps,(name,(((k+1:Nat):Int),()))),())):=by
    simp only[zw,b8 c3,cond_true,bX,c1,Option.bind_some,bS hw];cases (q.name==name)<;>rfl
   cases ar:(q.name==name) with
   |true=>
    rw[ar,cond_true] at step;exact .inl ⟨k,q,ca step,c1,by simp[List.find?_cons,ar]⟩
   |false=>
    rw[ar,cond_false] at step;rcases ih (k+1) c2 c3 with⟨j,fl,h1,h2,h3⟩|⟨h1,h2⟩
    ·exact .inl ⟨j,fl,(dz step).trans h1,h2,by simp[List.find?_cons,ar];exact h3⟩
    ·exact .inr ⟨(dz step).trans h1,by simp only[List.find?_cons,ar];exact h2⟩
 rcases key ps 0 rfl (Nat.zero_le _) with⟨j,q,h1,h2,h3⟩|⟨h1,h2⟩
 ·have h1:rZ ((ps,(name,((0:Int),()))),())=some (.inl (((j:Int),()),())):=h1;exact .inl ⟨j,q,by simp only[f160,h1,Option.bind_some],h2,h3⟩
 ·have h1:rZ ((ps,(name,((0:Int),()))),())=some (.inr ((),())):=h1;exact .inr ⟨by simp only[f160,h1,Option.bind_some],h2⟩
abbrev nc(ps:List aW):Prop:=∀p,p∈ps->p.aV.length<=2097151/\∀n,n∈p.bl->n.aV.length<=2097151
def iC(ps:List aW)(n:bB):Bool:=match ps.find? (fun q=>q.name==n.name) with
 |some q=>sO n q.aV
 |none=>false
def jw(ps:List aW)(n:bB):Bool:=ps.any fun q=>la n q.name q.aV
theorem abN(a)(hb:fS a.1.1)(hv:nc a.1.1):f110 a=some ((a.1.1.all (fun p=>p.bl.all (iC a.1.1)),()),()):=by
 obtain⟨⟨ps,u⟩,b5⟩:=a;have hl:ps.length<=2097152:=hb.1;have inner:∀(i:Nat) (p:aW),ps[i]? =some p->DV ((ps,((i:Int),((0:Int),()))),())=some (bif p.bl.all (iC ps) then .inr ((ps,((i:Int),())),()) else .inl ((false,()),())):=by
  intro i p hp;have tn:=List.mem_of_getElem? hp;have Ce:p.bl.length<=2097152:=(hb.2 p tn).2.2.1.1;have:=fZ xV p.bl (fun k=>((ps,((i:Int),((k:Int),()))),())) (fun _ n=>iC ps n) (.inl ((false,()),())) (.inr ((ps,((i:Int),())),())) (fun k n hn=>?_) ?_
  ·have:=this;rw[gH] at this;exact this
  ·have hk:=cS hn;have hw:ap k:=by unfold ap;omega
   have kC:=List.mem_of_getElem? hn;have h8:=adL ((ps,(n.name,())),()) hl;simp only[xV,bX,hp,Option.bind_some,b8 hk,cond_true,hn];rcases h8 with⟨j,q,h1,h2,h3⟩|⟨h1,h2⟩
   ·have h2:ps[j]? =some q:=h2;have h3:ps.find? (fun p=>p.name==n.name)=some q:=h3
    have ar:=hv q (List.mem_of_getElem? h2);have hf:=adN (((n.name,(n.kind,(n.aV,()))),(n.name,(q.aV,()))),()) ((hv p tn).2 n kC) ar.1 rfl;have hj:decide ((j:Int)<0)=false:=by simp only[decide_eq_false_iff_not];omega
    simp only[h1,Option.bind_some,xd,hj,cond_false,bX,h2,hf,iC,h3,bS hw];cases sO n q.aV<;>rfl
   ·have h2:ps.find? (fun p=>p.name==n.name)=none:=h2
    have hj:decide ((-1:Int)<0)=true:=rfl;simp only[h1,Option.bind_some,xd,hj,cond_true,iC,h2,cond_false]
  ·simp only[xV,bX,hp,Option.bind_some,dh,cond_false]
 have key:Gq ((ps,((0:Int),())),())=some (bif allI (fun _ p=>p.bl.all (iC ps)) 0 ps then .inr ((),()) else .inl ((false,()),())):=by
  refine fZ zI ps (fun i=>((ps,((i:Int),())),())) _ _ _ (fun i x hx=>?_) ?_
  ·have hi:=cS hx;have hw:ap i:=by unfold ap;omega
   simp only[zI,b8 hi,cond_true,inner i x hx,Option.bind_some];cases x.bl.all (iC ps)
   ·rfl
   ·simp only[cond_true,bS hw]
  ·simp only[zI,dh,cond_false]
 rw[gH] at key;simp only[f110,key,Option.bind_some];cases List.all ps (fun p=>p.bl.all (iC ps))<;>rfl
theorem Z6(a)(hb:fS a.1.1)(hv:nc a.1.1):f131 a=some ((a.1.1.all (fun p=>p.bl.all (jw a.1.1)),()),()):=by
 obtain⟨⟨ps,u⟩,b5⟩:=a;have hl:ps.length<=2097152:=hb.1;have hcon:∀n:bB,cR n.name.length->n.aV.length<=2097151->AJ ((ps,(((n.name,(n.kind,(n.aV,()))),()),())),())=some ((jw ps n,()),()):=by
  intro n hn1 ap4;have key:∀(r:List aW) (k:Nat),ps.drop k=r->k<=ps.length->∃z:Int,(rI ((ps,(((n.name,(n.kind,(n.aV,()))),()),((ps.length:Int),((k:Int),())))),())).bind (fun ajr=>(match ajr with
    |.inl ajq=>some ((ajq.1.1,()),())
    |.inr atE=>some ((((-1):Int),()),()):Option Hd.J))=some ((z,()),())/\decide (z>=0)=r.any (fun q=>la n q.name q.aV):=by
   intro r;induction r with
   |nil=>
    intro k hr hk;have:=drop_nil hr;have d1:decide ((k:Int)<(ps.length:Int))=false:=by simp only[decide_eq_false_iff_not];omega
    have:rI ((ps,(((n.name,(n.kind,(n.aV,()))),()),((ps.length:Int),((k:Int),())))),())=some (.inr ((),())):=by
     refine ca ?_
     simp only[xQ,d1,cond_false]
    exact⟨-1,by rw[this];rfl,rfl⟩
   |cons q r ih=>
    intro k hr hk;obtain⟨c1,c2,c3⟩:=drop_cons hr;have hw:ap k:=by unfold ap;omega
    have ar:=hv q (List.mem_of_getElem? c1);have hf:=aaK (((n.name,(n.kind,(n.aV,()))),(q.name,(q.aV,()))),()) hn1 ap4 ar.1;have step:xQ ((ps,(((n.name,(n.kind,(n.aV,()))),()),((ps.length:Int),((k:Int),())))),())=some (bif la n q.name q.aV then .inr (.inl (((k:Int),()),())) else .inl ((ps,(((n.name,(n.kind,(n.aV,()))),()),((ps.length:Int),(((k+1:Nat):Int),())))),())):=by
     simp only[xQ,b8 c3,cond_true,bX,c1,Option.bind_some,HH,hf,bS hw];cases la n q.name q.aV<;>rfl
    rw[List.any_cons];cases XF:la n q.name q.aV with
    |true=>
     rw[XF,cond_true] at step;exact⟨k,by rw[show rI _=_ from ca step];rfl,by simp⟩
    |false=>
     rw[XF,cond_false] at step;obtain⟨z,h1,h2⟩:=ih (k+1) c2 c3;exact⟨z,by rw[show rI _=_ from dz step];exact h1,by rw[h2];rfl⟩
  obtain⟨z,h1,h2⟩:=key ps 0 rfl (Nat.zero_le _);have h3:AI ((ps,(((n.name,(n.kind,(n.aV,()))),()),())),())=some ((z,()),()):=by
   simp only[AI];exact h1
  simp only[AJ,h3,Option.bind_some,h2,jw]
 have inner:∀(i:Nat) (p:aW),ps[i]? =some p->DS ((ps,(ps,((ps.length:Int),((i:Int),(p.bl,((p.bl.length:Int),((0:Int),()))))))),())=some (bif p.bl.all (jw ps) then .inr ((ps,(ps,((ps.length:Int),((i:Int),())))),()) else .inl ((false,()),())):=by
  intro i p hp;have tn:=List.mem_of_getElem? hp;have Ce:p.bl.length<=2097152:=(hb.2 p tn).2.2.1.1;have:=fZ xT p.bl (fun k=>((ps,(ps,((ps.length:Int),((i:Int),(p.bl,((p.bl.length:Int),((k:Int),()))))))),())) (fun _ n=>jw ps n) (.inl ((false,()),())) (.inr ((ps,(ps,((ps.length:Int),((i:Int),())))),())) (fun k n hn=>?_) ?_
  ·have:=this;rw[gH] at this;exact this
  ·have hk:=cS hn;have hw:ap k:=by unfold ap;omega
   have kC:=List.mem_of_getElem? hn;have hc:=hcon n ((hb.2 p tn).2.2.1.2 n kC).1 ((hv p tn).2 n kC);simp only[xT,b8 hk,cond_true,bX,hn,Option.bind_some,hc,bS hw];cases jw ps n<;>rfl
  ·simp only[xT,dh,cond_false]
 have key:Gn ((ps,(ps,((ps.length:Int),((0:Int),())))),())=some (bif allI (fun _ p=>p.bl.all (jw ps)) 0 ps then .inr ((),()) else .inl ((false,()),())):=by
  refine fZ zG ps (fun i=>((ps,(ps,((ps.length:Int),((i:Int),())))),())) _ _ _ (fun i x hx=>?_) ?_
  ·have hi:=cS hx;have hw:ap i:=by unfold ap;omega
   simp only[zG,b8 hi,cond_true,bX,hx,inner i x hx,Option.bind_some];cases x.bl.all (jw ps)
   ·rfl
   ·simp only[cond_true,bS hw]
  ·simp only[zG,dh,cond_false]
 rw[gH] at key;simp only[f131,key,Option.bind_some];cases List.all ps (fun p=>p.bl.all (jw ps))<;>rfl
theorem adx:∀ps:List aW,(∀i y,ps[i+1]? =some y->nI ps i y=true)->ps.Pairwise fun p q=>Op.bytesLess p.name q.name=true:=by
 intro ps;induction ps with
 |nil=>intro _;exact List.Pairwise.nil
 |cons x r ih=>
  intro h;have hr:=ih (fun i y hy=>by
   have:=h (i+1) y (by simpa using hy)
   unfold nI at this ⊢;simpa using this)
  refine List.pairwise_cons.2 ⟨fun y hy=>?_,hr⟩
  cases r with
  |nil=>cases hy
  |cons z r=>
   have hz:Op.bytesLess x.name z.name=true:=by
    have:=h 0 z rfl;unfold nI at this;simpa using this
   rcases List.mem_cons.1 hy with rfl|hy
   ·exact hz
   ·exact ur _ _ _ hz ((List.pairwise_cons.1 hr).1 y hy)
theorem ahm{ps:List aW}(h:lm ps=true):ps.Pairwise fun p q=>Op.bytesLess p.name q.name=true:=by
 refine adx ps (fun i y hy=>?_)
 have:=yy ps.tail 0 h i y (by rw[List.getElem?_tail];exact hy)
 rwa[Nat.zero_add] at this
theorem _8:∀(ps:List aW) (n:bB),(∀p,p∈ps->d_ p.aV=true)->du n=true->ps.Pairwise (fun p q=>Op.bytesLess p.name q.name=true)->jw ps n=iC ps n:=by
 intro ps n;induction ps with
 |nil=>intro _ _ _;rfl
 |cons q r ih=>
  intro hv hn hp;have Cd:=List.pairwise_cons.1 hp;have ih:=ih (fun p h=>hv p (List.mem_cons_of_mem _ h)) hn Cd.2
  unfold jw iC at ih ⊢;rw[List.any_cons,List.find?_cons];cases ar:(q.name==n.name) with
  |true=>
   have hno:r.any (fun q=>la n q.name q.aV)=false:=by
    rw[List.any_eq_false];intro p apW;have h1:=Cd.1 p apW;rw[eq_of_beq ar] at h1;have:(p.name==n.name)=false:=by
     cases h:(p.name==n.name) with
     |false=>rfl
     |true=>rw[eq_of_beq h,AO] at h1;cases h1
    unfold la;rw[this];simp
   rw[hno];unfold la;rw[hv q List.mem_cons_self,hn,ar];simp
  |false=>
   have:la n q.name q.aV=false:=by unfold la;rw[ar];simp
   rw[this,Bool.false_or];exact ih
def fM(ps:List aW):Bool:=ps.all cB&&lm ps&&decide (ps.length<=5)&&ps.all (fun p=>p.bl.all (iC ps))&&(gL [] ps).isSome
def A'(ps:List aW):Int:=bif ps.all cB&&lm ps then(bif decide (ps.length<=5) then(bif ps.all (fun p=>p.bl.all (iC ps)) then(bif(gL [] ps).isSome then 0 else 5) else 4) else 6) else 1
theorem _X(ps:List aW):fM ps=(A' ps==0):=by
 unfold fM A';cases ps.all cB<;>cases lm ps<;>cases decide (ps.length<=5)<;>cases ps.all (fun p=>p.bl.all (iC ps))<;>cases (gL [] ps).isSome<;>rfl
theorem abC{ax:Type}(ok:Nat->ax->Bool):∀(xs:List ax) (j:Nat),allI ok (j+1) xs=allI (fun i=>ok (i+1)) j xs:=by
 intro xs;induction xs with
 |nil=>intro j;rfl
 |cons x r ih=>intro j;simp only[allI,ih]
def BZ(ps:List aW)(i:Nat)(x:aW):Bool:=cB x&&(i==0||nI ps (i-1) x)
theorem agR(ps:List aW):allI (BZ ps) 0 ps=(ps.all cB&&lm ps):=by
 unfold BZ;rw[Fb,gH];congr 1
 unfold lm;cases ps with
 |nil=>rfl
 |cons x r=>
  simp only[allI,beq_self_eq_true,Bool.true_or,Bool.true_and,List.tail_cons];rw[abC];refine M3 r 0 (fun i y _ _=>?_)
  have:(i+1==0)=false:=rfl;rw[this,Bool.false_or,Nat.add_sub_cancel]
theorem Ed(a)(hb:fS a.1.1.1)(hv:nc a.1.1.1):f30 a=some ((fM a.1.1.1,()),()):=by
 obtain⟨⟨⟨ps,u⟩,b5⟩,j8⟩:=a;have hl:ps.length<=2097152:=hb.1;have key:Hq ((ps,((0:Int),())),())=some (bif allI (BZ ps) 0 ps then .inr ((ps,()),()) else .inl (((1:Int),()),())):=by
  refine fZ AC ps (fun i=>((ps,((i:Int),())),())) _ _ _ (fun i x hx=>?_) ?_
  ·have hi:=cS hx;have hw:ap i:=by unfold ap;omega
   have Kj:=hb.2 x (List.mem_of_getElem? hx);simp only[AC,b8 hi,cond_true,GB,bX,hx,Option.bind_some];rw[Ef _ Kj];simp only[Option.bind_some,BZ,IP];cases cB x with
   |false=>rfl
   |true=>
    simp only[Bool.not_true,cond_false,Bool.true_and,nI];cases i with
    |zero=>simp only[beq_self_eq_true,Bool.not_true,cond_false,Option.bind_some,Bool.true_or,cond_true,bS hw]
    |succ i=>
     have h0:(i+1==0)=false:=rfl;have j_:i<ps.length:=by omega
     obtain⟨q,ar⟩:∃q,ps[i]? =some q:=⟨ps[i],List.getElem?_eq_getElem j_⟩;simp only[h0,Bool.not_false,cond_true,xt (i:=i) (by unfold ap;omega),bX,ar,hx,Option.bind_some,Bool.false_or,Nat.add_sub_cancel]
     cases Op.bytesLess q.name x.name with
     |false=>rfl
     |true=>simp only[Bool.not_true,cond_false,cond_true,bS hw]
  ·simp only[AC,dh,cond_false]
 rw[agR] at key;have bk:decide ((ps.length:Int)>5)=!decide (ps.length<=5):=by by_cases h:ps.length<=5<;>simp only[h,decide_true,decide_false,Bool.not_true,Bool.not_false,decide_eq_true_eq,decide_eq_false_iff_not]<;>omega
 simp only[f30,f60,key,Option.bind_some,fM];cases dZ:(ps.all cB&&lm ps) with
 |false=>rfl
 |true=>
  have hk:ps.all cB=true:=by simp only[Bool.and_eq_true] at dZ;exact dZ.1
  obtain⟨out,aq⟩:=adK ((ps,()),()) hb hk;have hn:=abN ((ps,()),()) hb hv;simp only[cond_true,Option.bind_some,aq,bk,Bool.true_and];cases decide (ps.length<=5) with
  |false=>rfl
  |true=>
   simp only[Bool.not_true,cond_false,hn,Option.bind_some,Bool.true_and];cases ps.all (fun p=>p.bl.all (iC ps))<;>cases (gL [] ps).isSome<;>rfl
theorem aaz(a)(hb:fS a.1.1)(hv:nc a.1.1):f81 a=some ((A' a.1.1,()),()):=by
 obtain⟨⟨ps,u⟩,b5⟩:=a;have hl:ps.length<=2097152:=hb.1;have e1:=ab1 ((ps,((),())),()) hb;have e2:=ZM ((ps,()),()) hl;have bp:=Z6 ((ps,()),()) hb hv;have bk:decide ((ps.length:Int)>5)=!decide (ps.length<=5):=by by_cases h:ps.length<=5<;>simp only[h,decide_true,decide_false,Bool.not_true,Bool.not_false,decide_eq_true_eq,decide_eq_false_iff_not]<;>omega
 have c0:sw (((ps,()),()),())=some (((bif ps.all cB&&lm ps then(0:Int) else 1),()),()):=by
  simp only[sw,D5,e1,Bool.not_not,Option.bind_some];cases ps.all cB with
  |false=>rfl
  |true=>simp only[cond_true,e2,Option.bind_some,Bool.true_and];cases lm ps<;>rfl
 have c1:sv (((ps,()),()),())=some (((bif decide (ps.length<=5) then(0:Int) else 6),()),()):=by
  simp only[sv,bk];cases decide (ps.length<=5)<;>rfl
 have c2:su (((ps,()),()),())=some (((bif ps.all (fun p=>p.bl.all (jw ps)) then(0:Int) else 4),()),()):=by
  simp only[su,bp,Option.bind_some];cases ps.all (fun p=>p.bl.all (jw ps))<;>rfl
 have c3:ps.all cB=true->ss (((ps,()),()),())=some (((bif(gL [] ps).isSome then(0:Int) else 5),()),()):=by
  intro hk;obtain⟨out,aq⟩:=_I ((ps,()),()) hb hk;simp only[ss,aq,Option.bind_some];cases (gL [] ps).isSome<;>rfl
 have z:∀n:Int,((n:Int) !=0)=!(n==0):=fun n=>rfl
 simp only[f81,HY,qe,c0,c1,c2,qg,Option.bind_some,A'];cases dZ:(ps.all cB&&lm ps) with
 |false=>rfl
 |true=>
  simp only[Bool.and_eq_true] at dZ;have aiB:ps.all (fun p=>p.bl.all (jw ps))=ps.all (fun p=>p.bl.all (iC ps)):=by
   rw[Bool.eq_iff_iff];simp only[List.all_eq_true];have hvs:∀p,p∈ps->d_ p.aV=true:=fun p hp=>by
    have:=List.all_eq_true.1 dZ.1 p hp;unfold cB at this;simp only[Bool.and_eq_true] at this;exact this.1.1.2
   have hns:∀p,p∈ps->∀n,n∈p.bl->jw ps n=iC ps n:=fun p hp n hn=>by
    have:=List.all_eq_true.1 dZ.1 p hp;unfold cB p2 at this;simp only[Bool.and_eq_true] at this;exact _8 ps n hvs (List.all_eq_true.1 this.1.2.1.1 n hn) (ahm dZ.2)
   constructor
   ·intro h p hp n hn;rw[<-hns p hp n hn];exact h p hp n hn
   ·intro h p hp n hn;rw[hns p hp n hn];exact h p hp n hn
  rw[aiB,c3 dZ.1];cases decide (ps.length<=5)<;>cases ps.all (fun p=>p.bl.all (iC ps))<;>cases (gL [] ps).isSome<;>rfl
theorem xw(a)(hb:fS a.1.1.1)(hv:nc a.1.1.1):f43 a=some ((fM a.1.1.1,()),()):=by
 obtain⟨⟨⟨ps,u⟩,b5⟩,j8⟩:=a;have e:=aaz ((ps,()),()) hb hv;simp only[f43,e,Option.bind_some,_X]
abbrev i217:Shape:=⟨[(0,.ak (.d (.int .u32))),ae 1],[],17⟩
abbrev SW:Shape:=⟨[(4,.ak (.d (.int .u32)))],[],17⟩
noncomputable def f217(a:i217.J):Option SW.J:=
(lh .u32 a.1.1 (ew .u64 (IntKind.u64.wrap a.1.2.1) (31:Int))).bind fun b=>
(e7 .u32 a.1.1 (IntKind.u64.wrap ((32:Int)-(ew .u64 (IntKind.u64.wrap a.1.2.1) (31:Int))))).bind fun c=>
 some (((hN .u32 b c),()),())
noncomputable def UY:aH:=aP aj Tryz.f217 i217 SW [] f217
theorem akt:aG U 217 UY:=aS g0 Tryz.func217 (by kernel_rfl) ag (fun y=>by kernel_rfl) fun a=>by kernel_rfl
noncomputable abbrev amY:bi:=[(217,UY)]
theorem anW:a_ U (bg aj amY):=bf ⟨akt,⟨⟩⟩
abbrev i171:Shape:=⟨[(0,.ak (.d (.int .u32))),ae 1],[],9⟩
abbrev Tn:Shape:=⟨[(4,.ak (.d (.int .u32)))],[],9⟩
noncomputable def f171(a:i171.J):Option Tn.J:=
(f217 ((a.1.1,(IntKind.i64.wrap (0-a.1.2.1)),()),())).bind fun b=>
 some ((b.1.1,()),())
noncomputable def Vk:aH:=aP aj Tryz.f171 i171 Tn [] f171
theorem z171:aG U 171 Vk:=aS anW Tryz.func171 (by kernel_rfl) ag (fun y=>by kernel_rfl) fun a=>by kernel_rfl
abbrev i278:Shape:=⟨[(0,.ak (.d (.int .u32))),ae 1],[],13⟩
abbrev SC:Shape:=⟨[(4,.ak (.d (.int .u32)))],[],13⟩
noncomputable def f278(a:i278.J):Option SC.J:=
(e7 .u32 a.1.1 a.1.2.1).bind fun b=>
(lh .u32 a.1.1 (IntKind.i64.wrap ((32:Int)-a.1.2.1))).bind fun c=>
 some (((hN .u32 b c),()),())
noncomputable def IW:aH:=aP aj Tryz.f278 i278 SC [] f278
theorem Sd:aG U 278 IW:=aS g0 Tryz.func278 (by kernel_rfl) ag (fun y=>by kernel_rfl) fun a=>by kernel_rfl
noncomputable abbrev amt:bi:=[(278,IW)]
theorem Ja:a_ U (bg aj amt):=bf ⟨Sd,⟨⟩⟩
abbrev yG:Shape:=⟨[aK 0 .u8,bc 3 3000192,ae 4],[bb 3000192 .u32 3 0],100⟩
abbrev Fp:List aO:=[(.exit 0,⟨[bc 3 3000192],[bb 3000192 .u32 3 0],100⟩)]
noncomputable def GC(y:yG.J):bR yG Fp:=
 bif(decide (y.1.2.2.1<(16:Int))) then
(aU y.1.1 (IntKind.i64.wrap ((4:Int)*y.1.2.2.1))).bind fun a=>
(lh .u32 (IntKind.u32.wrap a) (24:Int)).bind fun b=>
(aU y.1.1 (IntKind.i64.wrap ((IntKind.i64.wrap ((4:Int)*y.1.2.2.1))+(1:Int)))).bind fun c=>
(lh .u32 (IntKind.u32.wrap c) (16:Int)).bind fun d=>
(aU y.1.1 (IntKind.i64.wrap ((IntKind.i64.wrap ((4:Int)*y.1.2.2.1))+(2:Int)))).bind fun e=>
(lh .u32 (IntKind.u32.wrap e) (8:Int)).bind fun f=>
(aU y.1.1 (IntKind.i64.wrap ((IntKind.i64.wrap ((4:Int)*y.1.2.2.1))+(3:Int)))).bind fun g=>
(cy 4 y.2.1 ([(hN .u32 (hN .u32 (hN .u32 b d) f) (IntKind.u32.wrap g))]:List Int)).bind fun h=>
 some (.inl ((y.1.1,(),(IntKind.i64.wrap (y.1.2.2.1+(1:Int))),()),h,()))
else
 some (.inr (((),()),y.2.1,()))
noncomputable def F6:yG.J->Option (aD Fp):=bv GC
theorem af5:aY U (an (codeOf Tryz.f276) 1 58) (a' yG Fp F6):=bT Ja (by kernel_rfl) ag fun y=>by kernel_rfl
abbrev x4:Shape:=⟨[bc 3 3000192,ae 5],[bb 3000192 .u32 3 0],100⟩
abbrev Ej:List aO:=[(.exit 2,⟨[bc 3 3000192],[bb 3000192 .u32 3 0],100⟩)]
noncomputable def E3(y:x4.J):bR x4 Ej:=
 bif(decide (y.1.2.1<(64:Int))) then
(a8 y.2.1.length (IntKind.i64.wrap (y.1.2.1-(15:Int)))).bind fun a=>
(y.2.1[a]?).bind fun b=>
(a8 y.2.1.length (IntKind.i64.wrap (y.1.2.1-(2:Int)))).bind fun c=>
(y.2.1[c]?).bind fun d=>
(f278 ((b,(7:Int),()),())).bind fun e=>
(f278 ((b,(18:Int),()),())).bind fun f=>
(e7 .u32 b (3:Int)).bind fun g=>
(f278 ((d,(17:Int),()),())).bind fun h=>
(f278 ((d,(19:Int),()),())).bind fun i=>
(e7 .u32 d (10:Int)).bind fun j=>
(a8 y.2.1.length (IntKind.i64.wrap (y.1.2.1-(16:Int)))).bind fun k=>
(y.2.1[k]?).bind fun l=>
(a8 y.2.1.length (IntKind.i64.wrap (y.1.2.1-(7:Int)))).bind fun m=>
(y.2.1[m]?).bind fun n=>
(cy 4 y.2.1 ([(IntKind.u32.wrap ((IntKind.u32.wrap ((IntKind.u32.wrap (l+(dl .u32 (dl .u32 e.1.1 f.1.1) g)))+n))+(dl .u32 (dl .u32 h.1.1 i.1.1) j)))]:List Int)).bind fun B=>
 some (.inl (((),(IntKind.i64.wrap (y.1.2.1+(1:Int))),()),B,()))
else
 some (.inr (((),()),y.2.1,()))
noncomputable def EL:x4.J->Option (aD Ej):=bv E3
theorem aet:aY U (an (codeOf Tryz.f276) 1 122) (a' x4 Ej EL):=bT Ja (by kernel_rfl) ag fun y=>by kernel_rfl
abbrev i276:Shape:=⟨[aK 0 .u8],[],100⟩
abbrev SE:Shape:=⟨[bc 2 3000128],[bb 3000128 .u32 2 0],100⟩
noncomputable def f276(a:i276.J):Option SE.J:=
(jE 4 (0:Int) (64:Int) (0:Int)).bind fun b=>
(F6 ((a.1.1,(),(0:Int),()),b,())).bind fun c=>
(EL (((),(16:Int),()),c.2.1,())).bind fun d=>
 some (((),()),d.2.1,())
noncomputable def UI:aH:=aP aj Tryz.f276 i276 SE [] f276
theorem akh:aG U 276 UI:=aS Ja Tryz.func276 (by kernel_rfl) (ba af5 (ba aet ag)) (fun y=>by kernel_rfl) fun a=>by kernel_rfl
end Go.Proofs
