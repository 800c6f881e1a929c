/- The page's word of ops: the same as the program's. -/
import Derived.Test.YtjafmhgkfkfimaaGreatDoorEx3
import Derived.Test.YtjafmhgkfkfimaaGreatDoorEx4
import Derived.Shelf.Strings.OnBuilder
import Derived.KernelRfl
import Derived.Test.YtjafmhgkfkfimaaGreatDoorProg
import Derived.Shelf.Unicode.DecodeAny
import Derived.Lib.RuneCountTail
import Derived.Shelf.Unicode.DecodeLastEight
set_option linter.unusedVariables false
set_option linter.unusedSimpArgs false
set_option maxHeartbeats 2000000
namespace Go.AE
open Go Go.Proofs
def newR (n:Int):DiskV×Int:=if 1≤n∧n≤400 then (⟨List.replicate n.toNat blank,[]⟩,0) else (⟨[],[]⟩,1)
def putR (d:DiskV) (at_:Int) (s:List UInt8):DiskV×Int:=
 if mayB d=false∨s.length≠32 then (⟨[],[]⟩,1) else if at_<0∨(d.safe.length:Int)≤at_ then (⟨[],[]⟩,3) else if 400≤d.wait.length then (⟨[],[]⟩,6)
 else (⟨d.safe,d.wait++[⟨at_,s⟩]⟩,0)
def refPutR (d:DiskV) (at_:Int) (s:List UInt8):DiskV×Int:=
 if at_<0∨(d.safe.length:Int)≤at_ then (⟨[],[]⟩,3) else if 400≤d.wait.length then (⟨[],[]⟩,6)
 else (⟨d.safe,d.wait++[⟨at_,s⟩]⟩,0)
def syncR (d:DiskV):DiskV×Int:=crashR d (List.replicate d.wait.length 1)
def readR (d:DiskV) (at_:Int):List UInt8×Int:=
 if mayB d=false then ([],1) else if at_<0∨(d.safe.length:Int)≤at_ then ([],3) else ((syncR d).1.safe.getD at_.toNat [],0)
theorem refNew_l0 {F:CT} (n:Nat) (hn1:n≤1000) {Q:AEx→St→Prop} {st:St} (v b:Id) (hF:ctGet F 33=ctGet F4 33) (k0:st.s 0=.c (.raw (.int .i64 n))) (k3:st.s 3=.c (.pt v 0 0)) (k2:st.s 2=.c (.pt b 0 0))
  (k4:st.s 4=.c (.raw (.int .i64 0))) (kv:st.H v=.arr 30 2 false [[.raw (.slice none 0 0),.raw (.slice none 0 0)]]) (hf:Fresh st.H st.T)
  (hq:∀st' c,st'.s 3=.c (.pt v 0 0)→st'.s 2=.c (.pt b 0 0)→st'.H v=.arr 30 2 false [[c,.raw (.slice none 0 0)]]→OwnL st'.H 9 1 st.T c (List.replicate n blank)→
   ExtH [v] st.H st.T st'.H st'.T→Q (.exit 0) st') :
  awpS Tryz.prog F (.loop s6L0) Q st:=by
 refine loop_n (fun m st'=>∃j:Nat,j≤n∧m=n-j∧st'.s 0=.c (.raw (.int .i64 n))∧st'.s 3=.c (.pt v 0 0)∧st'.s 2=.c (.pt b 0 0)∧st'.s 4=.c (.raw (.int .i64 j))∧ExtH [v] st.H st.T st'.H st'.T∧
  ∃c,st'.H v=.arr 30 2 false [[c,.raw (.slice none 0 0)]]∧OwnL st'.H 9 1 st.T c (List.replicate j blank)) n
  ⟨0,by simp -implicitDefEqProofs [k0,k3,k2,k4,kv,ExtH.refl hf];exact OwnL.nil⟩ ?_
 rintro m st' ⟨j,hj,rfl,k0,k3,k2,k4,he,c,kv,hown⟩
 have hf':=he.fresh
 have hT:=he.2.2.1
 have hfu:∀k d,st'.T≤k→st'.H (k,d)=.unborn:=hf'
 obtain ⟨f4,f5,f6⟩:=hf'.arr kv
 by_cases hlt:j<n
 ·have e2:IntKind.wrap .i64 ((j:Int)+1)=((j+1:Nat):Int):=by rw [wrap64_id]<;>omega
  have hrep:rowsE (List.replicate j blank)++[[AC.str blank]]=rowsE (List.replicate (j+1) blank):=by
   rw [show [[AC.str blank]]=rowsE [blank] from rfl,←rowsE_append,List.replicate_succ']
  rcases hown with ⟨rfl,hl⟩|⟨id,rfl,hid,kid⟩
  ·obtain rfl:j=0:=by simpa using hl
   simp -implicitDefEqProofs [s6L0,k0,k3,k2,k4,kv,hlt,e2,hF,hfu,f4,f5]
   refine ⟨n-1,by omega,1,by omega,rfl,rfl,?_,OwnL.so (by simp -implicitDefEqProofs) (by simp -implicitDefEqProofs;omega) (by simp -implicitDefEqProofs [f4,rowsE])⟩
   repeat' (first|exact he.tick (by first|omega|(simp<;>omega))|(refine ExtH.new ?_ (by first|omega|(simp<;>omega)) (by first|omega|(simp<;>omega)))|(refine ExtH.set ?_ (by simp) (by first|omega|(simp<;>omega))))
  ·obtain ⟨f7,f8,f9⟩:=hf'.arr kid
   have hne:(id=v)=False:=by
    simp only [eq_iff_iff,iff_false];intro e;rw [e,kv] at kid;cases kid
   have hne':(v=id)=False:=by
    simp only [eq_iff_iff,iff_false];intro e;rw [←e,kv] at kid;cases kid
   simp -implicitDefEqProofs [s6L0,k0,k3,k2,k4,kv,kid,hlt,e2,hF,hfu,f4,f5,f7,f8,hne,hne']
   refine ⟨by omega,n-(j+1),by omega,j+1,by omega,rfl,rfl,?_,OwnL.so (by simp -implicitDefEqProofs) (by simp -implicitDefEqProofs;omega) (by simp -implicitDefEqProofs [f4,hrep])⟩
   repeat' (first|exact he.tick (by first|omega|(simp<;>omega))|(refine ExtH.new ?_ (by first|omega|(simp<;>omega)) (by first|omega|(simp<;>omega)))|(refine ExtH.set ?_ (by simp) (by first|omega|(simp<;>omega))))
 ·have:j=n:=by omega
  subst this
  simp -implicitDefEqProofs [s6L0,k0,k3,k2,k4,hlt]
  rcases hown with ⟨rfl,hl⟩|⟨id,rfl,hid,kid⟩
  ·exact hq _ _ (by simp -implicitDefEqProofs [k3]) (by simp -implicitDefEqProofs [k2]) (by simpa using kv) (.inl ⟨rfl,hl⟩) (he.tick (by simp -implicitDefEqProofs))
  ·exact hq _ _ (by simp -implicitDefEqProofs [k3]) (by simp -implicitDefEqProofs [k2]) (by simpa using kv) (.inr ⟨id,rfl,hid,by simpa using kid⟩) (he.tick (by simp -implicitDefEqProofs))
theorem refNew_ev (n:Nat) (hn:n≤1000):PEv Tryz.prog 6 [.c (.raw (.int .i64 n))] (.g (diskNw ⟨List.replicate n blank,[]⟩)):=by
 refine tells_of mixed F4_ok Tryz.func6 sl6 ok6 (by kernel_rfl) (by simp [diskNw]) (by simp) ?_
 simp -implicitDefEqProofs [s6]
 refine refNew_l0 n hn (1,3) (0,2) rfl (by simp -implicitDefEqProofs) (by simp -implicitDefEqProofs) (by simp -implicitDefEqProofs) (by simp -implicitDefEqProofs) (by simp -implicitDefEqProofs) (by (simp;repeat' (first|exact fresh_no.mono (Nat.zero_le _)|(refine Fresh.set' ?_ (by simp))))) ?_
 intro st' c k3 k2 kv hown he
 have k2':=he.1 (0,2)
 simp -implicitDefEqProofs at k2'
 rcases hown with ⟨rfl,hl⟩|⟨id,rfl,hid,kid⟩
 ·obtain rfl:n=0:=by simpa using hl
  simp -implicitDefEqProofs [k3,k2,kv,k2',diskNw]
 ·have hne:id≠(0,2):=by rintro rfl;simp -implicitDefEqProofs at hid
  simp -implicitDefEqProofs [k3,k2,kv,k2',kid,diskNw,hne]
theorem refNewI_ev (n:Int) (h:0≤n∧n≤1000):PEv Tryz.prog 6 [.c (.raw (.int .i64 n))] (.g (diskNw ⟨List.replicate n.toNat blank,[]⟩)):=by
 obtain ⟨k,rfl⟩:∃k:Nat,n=(k:Int):=⟨n.toNat,by omega⟩
 exact refNew_ev k (by omega)
theorem refPut_ev (d:DiskV) (at_:Int) (s:List UInt8) (h1:d.safe.length<1000000) (h2:d.wait.length<1000000) :
  PEv Tryz.prog 61 [Arg.enc d,.c (.raw (.int .i64 at_)),.c (.str s)] (diskE (refPutR d at_ s)):=by
 refine tells_of mixed F4_ok Tryz.func61 sl61 ok61 (by kernel_rfl) (by simp [diskE,diskNw]) (by simp) ?_
 have e3:IntKind.wrap .i64 ((d.safe.length:Int)-1)=(d.safe.length:Int)-1:=by rw [wrap64_id]<;>omega
 unfold refPutR
 by_cases g1:at_<0∨(d.safe.length:Int)≤at_
 ·rw [if_pos g1]
  have g2:(decide (0≤at_)&&decide (at_≤(d.safe.length:Int)-1))=false:=by simp -implicitDefEqProofs;omega
  simp -implicitDefEqProofs [s61,e3,g2,diskE,diskNw]
 ·rw [if_neg g1]
  have g2:(decide (0≤at_)&&decide (at_≤(d.safe.length:Int)-1))=true:=by simp -implicitDefEqProofs;omega
  by_cases g3:400≤d.wait.length
  ·have g3':(400:Int)≤d.wait.length:=by omega
   rw [if_pos g3]
   simp -implicitDefEqProofs [s61,e3,g2,g3',diskE,diskNw]
  ·have g3':¬(400:Int)≤d.wait.length:=by omega
   rw [if_neg g3]
   simp -implicitDefEqProofs [s61,e3,g2,g3',h1,h2,diskE,diskNw]
   exact ⟨⟨by omega,by omega⟩,by rw [rowsE_append];rfl⟩
theorem diskPut_ev (d:DiskV) (at_:Int) (s:List UInt8) (h1:d.safe.length<1000000) (h2:d.wait.length<1000000) :
  PEv Tryz.prog 39 [Arg.enc d,.c (.raw (.int .i64 at_)),.c (.str s)] (diskE (putR d at_ s)):=by
 refine tells_of mixed F4_ok Tryz.func39 sl39 ok39 (by kernel_rfl) (by simp [diskE,diskNw]) (by simp) ?_
 unfold putR
 by_cases hm:mayB d=true
 ·by_cases hs:s.length=32
  ·rw [if_neg (by simp -implicitDefEqProofs [hm,hs])]
   by_cases g1:at_<0
   ·rw [if_pos (.inl g1)]
    simp -implicitDefEqProofs [s39,h1,h2,hm,hs,g1,diskE,diskNw]
   ·by_cases g2:(d.safe.length:Int)≤at_
    ·rw [if_pos (.inr g2)]
     simp -implicitDefEqProofs [s39,h1,h2,hm,hs,g1,g2,diskE,diskNw]
    ·rw [if_neg (by omega)]
     by_cases g3:400≤d.wait.length
     ·have g3':(400:Int)≤d.wait.length:=by omega
      rw [if_pos g3]
      simp -implicitDefEqProofs [s39,h1,h2,hm,hs,g1,g2,g3',diskE,diskNw]
     ·have g3':¬(400:Int)≤d.wait.length:=by omega
      rw [if_neg g3]
      simp -implicitDefEqProofs [s39,h1,h2,hm,hs,g1,g2,g3',diskE,diskNw]
      exact ⟨⟨by omega,by omega⟩,by rw [rowsE_append];rfl⟩
  ·rw [if_pos (.inr hs)]
   simp -implicitDefEqProofs [s39,h1,h2,hm,hs,diskE,diskNw]
 ·rw [if_pos (.inl (by simpa using hm))]
  simp -implicitDefEqProofs [s39,h1,h2,hm,diskE,diskNw]
theorem diskSync_ev (d:DiskV) (h1:d.safe.length<1000000) (h2:d.wait.length<1000000):PEv Tryz.prog 10 [Arg.enc d] (diskE (syncR d)):=by
 refine tells_of mixed F4_ok Tryz.func10 sl10 ok10 (by kernel_rfl) (by simp [diskE,diskNw]) (by simp) ?_
 simp -implicitDefEqProofs [s10]
 refine acall_pure (repI_ev 1 d.wait.length (by omega) (by omega)) (by simp -implicitDefEqProofs;rfl) (by simp -implicitDefEqProofs) (by simp -implicitDefEqProofs) ?_
 simp -implicitDefEqProofs
 refine acall_pure (diskCrash_ev d (List.replicate d.wait.length 1) h1 h2 (by simp -implicitDefEqProofs;omega)) (by simp -implicitDefEqProofs;rw [List.take_of_length_le (by simp -implicitDefEqProofs)]) (by simp -implicitDefEqProofs [diskE,diskNw]) (by simp -implicitDefEqProofs [diskE,diskNw]) ?_
 simp -implicitDefEqProofs [diskE,diskNw,syncR]
theorem crashR_len {d:DiskV} {keep:List Int} (h:mayB d=true):(crashR d keep).1.safe.length=d.safe.length:=by
 rw [crashR,if_pos h];exact crashGo_length _ _ _ _
end Go.AE
set_option linter.unusedVariables false
set_option linter.unusedSimpArgs false
set_option maxHeartbeats 2000000
set_option maxRecDepth 100000
namespace Go.AE
open Go Go.Proofs
structure ActD where
 do_:Int
 n:Int
 s:List UInt8
 k:List Int
instance encActD:Enc ActD where
 w:=4
 row a:=[.raw (.int .i64 a.do_),.raw (.int .i64 a.n),.str a.s,.sl .old false (rowsE a.k)]
 dec|[.raw (.int .i64 d),.raw (.int .i64 n),.str s,.sl .old false k]=>(decE k).map fun k=>⟨d,n,s,k⟩|_=>none
 dec_row a:=by simp -implicitDefEqProofs
 row_dec {r a} h:=by
  split at h
  ·rw [Option.map_eq_some_iff] at h
   obtain ⟨k,hk,rfl⟩:=h
   rw [decE_some hk]
  ·cases h
 len _:=rfl
 old a c hc:=by
  simp -implicitDefEqProofs at hc
  rcases hc with rfl|rfl|rfl|rfl
  ·exact .raw _
  ·exact .raw _
  ·exact .str _
  ·rw [oldOK_sl];simp -implicitDefEqProofs
 ret a c hc:=by
  simp -implicitDefEqProofs at hc
  rcases hc with rfl|rfl|rfl|rfl
  ·exact .raw _
  ·exact .raw _
  ·exact .str _
  ·rw [retOK_sl];simp -implicitDefEqProofs
@[simp] theorem row_ActD (a:ActD):Enc.row a=[AC.raw (.int .i64 a.do_),AC.raw (.int .i64 a.n),AC.str a.s,AC.sl .old false (rowsE a.k)]:=rfl
@[simp] theorem w_ActD:Enc.w ActD=4:=rfl
def F5_h39:List AV→Option (Prop×AV):=t3 (fun (d:DiskV) _ _=>d.safe.length<1000000∧d.wait.length<1000000) fun (d:DiskV) (n:Int) (s:List UInt8)=>diskE (putR d n s)
@[simp] theorem F5_ap39 {l:List AV}:F5_h39 l=(t3 (fun (d:DiskV) _ _=>d.safe.length<1000000∧d.wait.length<1000000) fun (d:DiskV) (n:Int) (s:List UInt8)=>diskE (putR d n s)) l:=rfl
def F5_h10:List AV→Option (Prop×AV):=t1 (fun d:DiskV=>d.safe.length<1000000∧d.wait.length<1000000) fun d:DiskV=>diskE (syncR d)
@[simp] theorem F5_ap10 {l:List AV}:F5_h10 l=(t1 (fun d:DiskV=>d.safe.length<1000000∧d.wait.length<1000000) fun d:DiskV=>diskE (syncR d)) l:=rfl
def F5_h11:List AV→Option (Prop×AV):=t2 (fun (d:DiskV) (k:List Int)=>d.safe.length<1000000∧d.wait.length<1000000∧k.length<281474976710656) fun (d:DiskV) (k:List Int)=>diskE (crashR d k)
@[simp] theorem F5_ap11 {l:List AV}:F5_h11 l=(t2 (fun (d:DiskV) (k:List Int)=>d.safe.length<1000000∧d.wait.length<1000000∧k.length<281474976710656) fun (d:DiskV) (k:List Int)=>diskE (crashR d k)) l:=rfl
def F5_h56:List AV→Option (Prop×AV):=t1 (fun d:DiskV=>mayB d=true) fun d:DiskV=>.g (diskNw ⟨syncGo d.safe d.wait,[]⟩)
@[simp] theorem F5_ap56 {l:List AV}:F5_h56 l=(t1 (fun d:DiskV=>mayB d=true) fun d:DiskV=>.g (diskNw ⟨syncGo d.safe d.wait,[]⟩)) l:=rfl
def F5_h6:List AV→Option (Prop×AV):=t1 (fun n:Int=>0≤n∧n≤1000) fun n:Int=>.g (diskNw ⟨List.replicate n.toNat blank,[]⟩)
@[simp] theorem F5_ap6 {l:List AV}:F5_h6 l=(t1 (fun n:Int=>0≤n∧n≤1000) fun n:Int=>.g (diskNw ⟨List.replicate n.toNat blank,[]⟩)) l:=rfl
def F5_h61:List AV→Option (Prop×AV):=t3 (fun (d:DiskV) _ _=>d.safe.length<1000000∧d.wait.length<1000000) fun (d:DiskV) (n:Int) (s:List UInt8)=>diskE (refPutR d n s)
@[simp] theorem F5_ap61 {l:List AV}:F5_h61 l=(t3 (fun (d:DiskV) _ _=>d.safe.length<1000000∧d.wait.length<1000000) fun (d:DiskV) (n:Int) (s:List UInt8)=>diskE (refPutR d n s)) l:=rfl
def F5:CT:=(39,.pu F5_h39)::(10,.pu F5_h10)::(11,.pu F5_h11)::(56,.pu F5_h56)::(6,.pu F5_h6)::(61,.pu F5_h61)::F4
theorem F5_ok:CTok Tryz.prog F5:=⟨tells3 fun d n s h=>diskPut_ev d n s h.1 h.2,
 tells1 fun d h=>diskSync_ev d h.1 h.2,
 tells2 fun d k h=>diskCrash_ev d k h.1 h.2.1 h.2.2,
 tells1 fun d h=>refSync_ev d h,
 tells1 fun n h=>refNewI_ev n h,
 tells3 fun d n s h=>refPut_ev d n s h.1 h.2,F4_ok⟩
@[simp] theorem F5_get39:ctGet F5 39=some (.pu F5_h39):=rfl
@[simp] theorem F5_get10:ctGet F5 10=some (.pu F5_h10):=rfl
@[simp] theorem F5_get11:ctGet F5 11=some (.pu F5_h11):=rfl
@[simp] theorem F5_get56:ctGet F5 56=some (.pu F5_h56):=rfl
@[simp] theorem F5_get6:ctGet F5 6=some (.pu F5_h6):=rfl
@[simp] theorem F5_get61:ctGet F5 61=some (.pu F5_h61):=rfl
@[simp] theorem F5_skip {n:Nat} (h:(n==39||n==10||n==11||n==56||n==6||n==61)=false):ctGet F5 n=ctGet F4 n:=by
 simp only [Bool.or_eq_false_iff,beq_eq_false_iff_ne,ne_eq] at h
 simp [F5,ctGet,h]
def wakesText:List UInt8:=List.replicate 31 0++[120]
theorem wkT:List.replicate 31 (0:UInt8)++[120]=wakesText:=rfl
theorem wk1:newR 3=(⟨List.replicate 3 blank,[]⟩,0):=by decide
theorem wk2:putR ⟨List.replicate 3 blank,[]⟩ 2 wakesText=(⟨List.replicate 3 blank,[⟨2,wakesText⟩]⟩,0):=by decide
theorem wk3:crashR ⟨List.replicate 3 blank,[⟨2,wakesText⟩]⟩ []=(⟨List.replicate 3 blank,[]⟩,0):=by decide
theorem wk4:syncR ⟨List.replicate 3 blank,[⟨2,wakesText⟩]⟩=(⟨[blank,blank,wakesText],[]⟩,0):=by decide
theorem wk5:readR ⟨[blank,blank,wakesText],[]⟩ 2=(wakesText,0):=by decide
@[simp] theorem rowsE_take_all {α:Type} [Enc α] {l:List α} {n:Nat} (h:l.length≤n):List.take n (rowsE l)=rowsE l:=by rw [List.take_of_length_le (by simpa using h)]
@[simp] theorem dec_Disk0 (a:List (List UInt8)):Arg.dec (.g [.sl .brw false (rowsE a),.sl .brw false []])=some (DiskV.mk a []):=dec_Disk a []
@[simp] theorem dec_Disk00:Arg.dec (.g [.sl .brw false [],.sl .brw false []])=some (DiskV.mk [] []):=dec_Disk [] []
theorem view0:Arg.dec (AV.c (AC.sl .brw false []))=some ([]:List Int):=rfl
end Go.AE
namespace Go.AE
open Go Go.Proofs Go.Shelf
def lays156_ren:Go.Shelf.Ren:=⟨fun|156=>80|165=>108|166=>109|169=>110|240=>126|241=>127|276=>137|277=>138|n=>n,fun|31=>27|9=>9|3=>3|4=>4|0=>0|20=>20|72=>152|76=>156|70=>150|37=>104|75=>155|127=>168|164=>179|5=>5|80=>81|n=>n,fun  |n=>n⟩
theorem lays156:Lays.n156 Tryz.prog lays156_ren where
 mixed:=by kernel_rfl
 f156:=Tryz.func80.trans (congrArg some (by kernel_rfl))
 f165:=Tryz.func108.trans (congrArg some (by kernel_rfl))
 f166:=Tryz.func109.trans (congrArg some (by kernel_rfl))
 f169:=Tryz.func110.trans (congrArg some (by kernel_rfl))
 f240:=Tryz.func126.trans (congrArg some (by kernel_rfl))
 f241:=Tryz.func127.trans (congrArg some (by kernel_rfl))
 f276:=Tryz.func137.trans (congrArg some (by kernel_rfl))
 f277:=Tryz.func138.trans (congrArg some (by kernel_rfl))
 t0:=Tryz.underlying0
 a0:=Tryz.isAgg0
 z0:=Tryz.sizeOf0
 v0:=Tryz.zeroValue0
 t3:=Tryz.underlying3
 a3:=Tryz.isAgg3
 z3:=Tryz.sizeOf3
 v3:=Tryz.zeroValue3
 t4:=Tryz.underlying4
 a4:=Tryz.isAgg4
 z4:=Tryz.sizeOf4
 v4:=Tryz.zeroValue4
 t9:=Tryz.underlying9
 a9:=Tryz.isAgg9
 z9:=Tryz.sizeOf9
 v9:=Tryz.zeroValue9
 t20:=Tryz.underlying20
 a20:=Tryz.isAgg20
 z20:=Tryz.sizeOf20
 v20:=Tryz.zeroValue20
 t31:=Tryz.underlying27
 a31:=Tryz.isAgg27
 z31:=Tryz.sizeOf27
 v31:=Tryz.zeroValue27
 t37:=Tryz.underlying104
 a37:=Tryz.isAgg104
 z37:=Tryz.sizeOf104
 v37:=Tryz.zeroValue104
 t70:=Tryz.underlying150
 a70:=Tryz.isAgg150
 z70:=Tryz.sizeOf150
 v70:=Tryz.zeroValue150
 t72:=Tryz.underlying152
 a72:=Tryz.isAgg152
 z72:=Tryz.sizeOf152
 v72:=Tryz.zeroValue152
 t75:=Tryz.underlying155
 a75:=Tryz.isAgg155
 z75:=Tryz.sizeOf155
 v75:=Tryz.zeroValue155
 t76:=Tryz.underlying156
 a76:=Tryz.isAgg156
 z76:=Tryz.sizeOf156
 v76:=Tryz.zeroValue156
 t127:=Tryz.underlying168
 a127:=Tryz.isAgg168
 z127:=Tryz.sizeOf168
 v127:=Tryz.zeroValue168
 t164:=Tryz.underlying179
 a164:=Tryz.isAgg179
 z164:=Tryz.sizeOf179
 v164:=Tryz.zeroValue179
theorem lays156X:Builder.Extra Tryz.prog lays156_ren where
 sizeBuilder:=by kernel_rfl
 liesBuilder:=by kernel_rfl
 t5:=Tryz.underlying5
 a5:=Tryz.isAgg5
 z5:=Tryz.sizeOf5
 v5:=Tryz.zeroValue5
 infoByte:=by kernel_rfl
 cellsByte:=by kernel_rfl
 sizeByte:=by kernel_rfl
 neB5:=by decide
end Go.AE
set_option linter.unusedVariables false
set_option linter.unusedSimpArgs false
set_option maxHeartbeats 4000000
set_option maxRecDepth 100000
namespace Go.AE
open Go Go.Proofs
theorem join_ev (l:List (List UInt8)) (h1:l.length<1000000) (h2:l.flatten.length≤140737488355328):PEv Tryz.prog 80 [Arg.enc l,.c (.str [])] (.c (.str l.flatten)):=by
 have hj:Lib.join l []=l.flatten:=by
  unfold Lib.join
  induction l with
  |nil=>rfl
  |cons x r ih=>
   cases r with
   |nil=>simp -implicitDefEqProofs (maxSteps:=400000) (maxDischargeDepth:=6) [List.intercalate]
   |cons y r=>
    have:=ih (by simp -implicitDefEqProofs (maxSteps:=400000) (maxDischargeDepth:=6) at h1 ⊢;omega) (by simp -implicitDefEqProofs (maxSteps:=400000) (maxDischargeDepth:=6) at h2 ⊢;omega)
    simp -implicitDefEqProofs (maxSteps:=400000) (maxDischargeDepth:=6) [List.intercalate,List.intersperse] at this ⊢
    rw [this]
 refine pev_str (by kernel_rfl) (by simp -implicitDefEqProofs (maxSteps:=400000) (maxDischargeDepth:=6)) fun w hI F vs hs hr=>?_
 have h0:=relV_c (hr 0 _ rfl)
 have h01:=relC_str (relV_c (hr 1 _ rfl))
 generalize hv:vs.getD 0 undef=v at h0
 rw [vs2 hs hv h01]
 generalize hx:rowsE l=xs at h0
 cases h0 with
 |slNil _ _ _ hn=>
  cases l with
  |cons=>cases hx
  |nil=>
   rcases hn with rfl|⟨a,rfl⟩
   ·exact (Any.strings_Join_none lays156 lays156X none 0 ⟨#[]⟩ w).mono fun e w' ⟨he,hw⟩=>⟨he,hw▸RowKit.Below.refl _ _⟩
   ·exact (Any.strings_Join_none lays156 lays156X (some a) 0 ⟨#[]⟩ w).mono fun e w' ⟨he,hw⟩=>⟨he,hw▸RowKit.Below.refl _ _⟩
 |sl _ _ _ b o cap sz us hb hF hcap hcl hrow hcell hone hrel=>
  subst hx
  have hlen:(rowsE l).length=l.length:=by simp -implicitDefEqProofs (maxSteps:=400000) (maxDischargeDepth:=6) [rowsE]
  have:=Any.strings_Join lays156 lays156X b o cap (l.map fun s=>(⟨s.toArray⟩:ByteArray)) ⟨#[]⟩ w (fun j x hjx=>?_) hb (by simp -implicitDefEqProofs (maxSteps:=400000) (maxDischargeDepth:=6);omega) (by simp -implicitDefEqProofs (maxSteps:=400000) (maxDischargeDepth:=6);rw [←hlen];exact hcap) (by simp -implicitDefEqProofs (maxSteps:=400000) (maxDischargeDepth:=6) [Function.comp_def,hj];simpa using h2)
  ·simp -implicitDefEqProofs (maxSteps:=400000) (maxDischargeDepth:=6) [Function.comp_def,hj] at this
   rw [hlen]
   exact this
  ·simp -implicitDefEqProofs (maxSteps:=400000) (maxDischargeDepth:=6) at hjx
   obtain ⟨s,hs',rfl⟩:=hjx
   have hri:(rowsE l)[j]?=some [AC.str s]:=by simp -implicitDefEqProofs (maxSteps:=400000) (maxDischargeDepth:=6) [rowsE,hs']
   have hsz:1=sz:=hrow j _ hri
   subst hsz
   have hjl:j<l.length:=(List.getElem?_eq_some_iff.1 hs').1
   rw [hcell j (by rw [hlen];omega)]
   have:=relC_str (hrel j 0 _ _ hri rfl)
   simp -implicitDefEqProofs (maxSteps:=400000) (maxDischargeDepth:=6) at this
   rw [this]
def prefB (s p:List UInt8):Bool:=Lib.hasPrefix s p
theorem hasPrefix_ev (s p:List UInt8):PEv Tryz.prog 83 [.c (.str s),.c (.str p)] (.c (.raw (.bool (prefB s p)))):=by
 refine pev_raw (by kernel_rfl) (by simp -implicitDefEqProofs (maxSteps:=400000) (maxDischargeDepth:=6)) fun w hI F vs hs hr=>?_
 have h0:=relC_str (relV_c (hr 0 _ rfl))
 have h1:=relC_str (relV_c (hr 1 _ rfl))
 rw [vs2 hs h0 h1]
 exact (Any.strings_HasPrefix {lays105 with} ⟨s.toArray⟩ ⟨p.toArray⟩ w).mono fun e w' ⟨he,hw⟩=>⟨he,hw▸RowKit.Below.refl _ _⟩
end Go.AE
set_option linter.unusedVariables false
set_option linter.unusedSimpArgs false
set_option maxHeartbeats 4000000
set_option maxRecDepth 100000
namespace Go.AE
open Go Go.Proofs
theorem repeatI_ev (s:List UInt8) (n:Int) (h0:0≤n∧n≤1000000) (h:s.length=1):PEv Tryz.prog 84 [.c (.str s),.c (.raw (.int .i64 n))] (.c (.str (Lib.repeatL s n.toNat))):=by
 have:=repeat_ev s n.toNat (by rw [h];omega) (by omega)
 rwa [Int.toNat_of_nonneg h0.1] at this
def FT0_h74:List AV→Option (Prop×AV):=t1 (fun n=>0≤n∧n<9223372036854775808) fun n:Int=>.c (.str (bytesN n.toNat))
@[simp] theorem FT0_ap74 {l:List AV}:FT0_h74 l=(t1 (fun n=>0≤n∧n<9223372036854775808) fun n:Int=>.c (.str (bytesN n.toNat))) l:=rfl
def FT0_h111:List AV→Option (Prop×AV):=t1 (fun s=>s.length<4611686018427387904) fun s:List UInt8=>takeAV s
@[simp] theorem FT0_ap111 {l:List AV}:FT0_h111 l=(t1 (fun s=>s.length<4611686018427387904) fun s:List UInt8=>takeAV s) l:=rfl
def FT0_h75:List AV→Option (Prop×AV):=t1 okP fun o:OpV=>.c (.str (spellN o))
@[simp] theorem FT0_ap75 {l:List AV}:FT0_h75 l=(t1 okP fun o:OpV=>.c (.str (spellN o))) l:=rfl
def FT0_h77:List AV→Option (Prop×AV):=t1 (fun s=>s.length<4611686018427387904) fun s:List UInt8=>.c (.str (sealA s))
@[simp] theorem FT0_ap77 {l:List AV}:FT0_h77 l=(t1 (fun s=>s.length<4611686018427387904) fun s:List UInt8=>.c (.str (sealA s))) l:=rfl
def FT0_h81:List AV→Option (Prop×AV):=t1 (fun s=>s.length<4611686018427387904) fun s:List UInt8=>sealTAV s
@[simp] theorem FT0_ap81 {l:List AV}:FT0_h81 l=(t1 (fun s=>s.length<4611686018427387904) fun s:List UInt8=>sealTAV s) l:=rfl
def FT0_h84:List AV→Option (Prop×AV):=t2 (fun s n=>(0≤n∧n≤1000000)∧s.length=1) fun (s:List UInt8) (n:Int)=>.c (.str (Lib.repeatL s n.toNat))
@[simp] theorem FT0_ap84 {l:List AV}:FT0_h84 l=(t2 (fun s n=>(0≤n∧n≤1000000)∧s.length=1) fun (s:List UInt8) (n:Int)=>.c (.str (Lib.repeatL s n.toNat))) l:=rfl
def FT0_h80:List AV→Option (Prop×AV):=t2 (fun l s=>s=[]∧l.length<1000000∧l.flatten.length≤140737488355328) fun (l:List (List UInt8)) (s:List UInt8)=>.c (.str l.flatten)
@[simp] theorem FT0_ap80 {l:List AV}:FT0_h80 l=(t2 (fun l s=>s=[]∧l.length<1000000∧l.flatten.length≤140737488355328) fun (l:List (List UInt8)) (s:List UInt8)=>.c (.str l.flatten)) l:=rfl
def FT0_h83:List AV→Option (Prop×AV):=t2 (fun _ _=>True) fun s p:List UInt8=>.c (.raw (.bool (prefB s p)))
@[simp] theorem FT0_ap83 {l:List AV}:FT0_h83 l=(t2 (fun _ _=>True) fun s p:List UInt8=>.c (.raw (.bool (prefB s p)))) l:=rfl
def FT0_h37:List AV→Option (Prop×AV):=t1 (fun e=>okO e.op) fun e:EntryV=>.c (.raw (.bool (entMayB e)))
@[simp] theorem FT0_ap37 {l:List AV}:FT0_h37 l=(t1 (fun e=>okO e.op) fun e:EntryV=>.c (.raw (.bool (entMayB e)))) l:=rfl
def FT0_h129:MH:=mh1 171 2 (rdG okR rdOp outO)
@[simp] theorem FT0_ap129 {H:Heap} {l:List AV}:FT0_h129 H l=(mh1 171 2 (rdG okR rdOp outO)) H l:=rfl
def FT0:CT:=(74,.pu FT0_h74)::(111,.pu FT0_h111)::(75,.pu FT0_h75)::(77,.pu FT0_h77)::(81,.pu FT0_h81)::(84,.pu FT0_h84)::(80,.pu FT0_h80)::(83,.pu FT0_h83)::(37,.pu FT0_h37)::(129,.mu FT0_h129)::F5
theorem FT0_ok:CTok Tryz.prog FT0:=⟨tells1 fun n h=>by have:=numBytes_ev n.toNat (by omega);rwa [Int.toNat_of_nonneg h.1] at this,
 tells1 fun s h=>numTake_ev s h,
 tells1 fun o h=>spell_ev o h,
 tells1 fun s h=>sealAdd_ev s h,
 tells1 fun s h=>sealTake_ev s h,
 tells2 fun s n h=>repeatI_ev s n h.1 h.2,
 tells2 fun l s h=>by rw [h.1];exact join_ev l h.2.1 h.2.2,
 tells2 fun s p _=>hasPrefix_ev s p,
 tells1 fun e h=>entMay_ev e h,
 rdOp_ev,F5_ok⟩
@[simp] theorem FT0_get74:ctGet FT0 74=some (.pu FT0_h74):=rfl
@[simp] theorem FT0_get111:ctGet FT0 111=some (.pu FT0_h111):=rfl
@[simp] theorem FT0_get75:ctGet FT0 75=some (.pu FT0_h75):=rfl
@[simp] theorem FT0_get77:ctGet FT0 77=some (.pu FT0_h77):=rfl
@[simp] theorem FT0_get81:ctGet FT0 81=some (.pu FT0_h81):=rfl
@[simp] theorem FT0_get84:ctGet FT0 84=some (.pu FT0_h84):=rfl
@[simp] theorem FT0_get80:ctGet FT0 80=some (.pu FT0_h80):=rfl
@[simp] theorem FT0_get83:ctGet FT0 83=some (.pu FT0_h83):=rfl
@[simp] theorem FT0_get37:ctGet FT0 37=some (.pu FT0_h37):=rfl
@[simp] theorem FT0_get129:ctGet FT0 129=some (.mu FT0_h129):=rfl
@[simp] theorem FT0_skip {n:Nat} (h:(n==74||n==111||n==75||n==77||n==81||n==84||n==80||n==83||n==37||n==129)=false):ctGet FT0 n=ctGet F5 n:=by
 simp only [Bool.or_eq_false_iff,beq_eq_false_iff_ne,ne_eq] at h
 simp [FT0,ctGet,h]
def takeOpR (s:List UInt8):OpV×List UInt8×Int:=if (rdOp ⟨s,false⟩).2.bad then (zeroO,[],7) else ((rdOp ⟨s,false⟩).1,(rdOp ⟨s,false⟩).2.s,0)
def takeOpAV (s:List UInt8):AV:=.t [(true,opRow .old (takeOpR s).1),(false,[.str (takeOpR s).2.1]),(false,[.raw (.int .i64 (takeOpR s).2.2)])]
theorem takeOp_ev (s:List UInt8) (hs:s.length<4611686018427387904):PEv Tryz.prog 112 [.c (.str s)] (takeOpAV s):=by
 refine tells_of mixed FT0_ok Tryz.func112 sl112 ok112 (by kernel_rfl) (by simp -implicitDefEqProofs (maxSteps:=400000) (maxDischargeDepth:=6) [takeOpAV,opRow]) (by simp -implicitDefEqProofs (maxSteps:=400000) (maxDischargeDepth:=6)) ?_
 have hr:okR ⟨s,false⟩:=hs
 rcases e:rdOp ⟨s,false⟩ with ⟨o,s1,b1⟩
 cases b1
 ·have e2:takeOpR s=(o,s1,0):=by simp -implicitDefEqProofs (maxSteps:=400000) (maxDischargeDepth:=6) [takeOpR,e]
  simp -implicitDefEqProofs (maxSteps:=400000) (maxDischargeDepth:=6) [s112,e,hr,rdrRow,outO,opRowW,takeOpAV,e2,opRow]
 ·have e2:takeOpR s=(zeroO,[],7):=by simp -implicitDefEqProofs (maxSteps:=400000) (maxDischargeDepth:=6) [takeOpR,e]
  simp -implicitDefEqProofs (maxSteps:=400000) (maxDischargeDepth:=6) [s112,e,hr,rdrRow,outO,opRowW,takeOpAV,e2,opRow,zeroO]
theorem repeat0 (n:Nat):Lib.repeatL [0] n=List.replicate n 0:=by
 induction n with
 |zero=>rfl
 |succ n ih=>rw [Lib.repeatL,ih];rfl
def padL (n:Nat):Nat:=(32-n%32)%32
def padN (s:List UInt8):List UInt8:=s++List.replicate (padL s.length) 0
theorem padded_ev (s:List UInt8) (hs:s.length<4611686018427387904):PEv Tryz.prog 76 [.c (.str s)] (.c (.str (padN s))):=by
 refine tells_of mixed FT0_ok Tryz.func76 sl76 ok76 (by kernel_rfl) (by simp -implicitDefEqProofs (maxSteps:=400000) (maxDischargeDepth:=6)) (by simp -implicitDefEqProofs (maxSteps:=400000) (maxDischargeDepth:=6)) ?_
 have t:∀n:Nat,((n:Int).tmod 32)=((n%32:Nat):Int):=fun n=>rfl
 have e1:=t s.length
 have e2:IntKind.wrap .i64 (32-((s.length%32:Nat):Int))=((32-s.length%32:Nat):Int):=by rw [wrap64_id]<;>omega
 have e3:(((32-s.length%32:Nat):Int).tmod 32)=((padL s.length:Nat):Int):=t _
 have e4:padL s.length<32:=by unfold padL;omega
 generalize hq:s.length%32=q at e1 e2 e3
 generalize hq2:32-q=q2 at e2 e3
 simp -implicitDefEqProofs (maxSteps:=400000) (maxDischargeDepth:=6) [s76,e1,e2,e3,repeat0,show padL s.length≤1000000 by omega]
 exact ⟨by omega,by omega,rfl⟩
structure okF (e:EntryV):Prop where
 join:e.join=true→okN e.nonce
 op:e.join=false→okP e.op
def plainN (e:EntryV):List UInt8:=if e.join then bytesN 1++bytesN e.nonce.toNat else bytesN 0++spellN e.op
def framedR (e:EntryV):List UInt8×Int:=if 700<(plainN e).length then ([],2) else (padN (sealA (plainN e)),0)
def framedAV (e:EntryV):AV:=.t [(false,[.str (framedR e).1]),(false,[.raw (.int .i64 (framedR e).2)])]
def FT1_h76:List AV→Option (Prop×AV):=t1 (fun s=>s.length<4611686018427387904) fun s:List UInt8=>.c (.str (padN s))
@[simp] theorem FT1_ap76 {l:List AV}:FT1_h76 l=(t1 (fun s=>s.length<4611686018427387904) fun s:List UInt8=>.c (.str (padN s))) l:=rfl
def FT1_h112:List AV→Option (Prop×AV):=t1 (fun s=>s.length<4611686018427387904) fun s:List UInt8=>takeOpAV s
@[simp] theorem FT1_ap112 {l:List AV}:FT1_h112 l=(t1 (fun s=>s.length<4611686018427387904) fun s:List UInt8=>takeOpAV s) l:=rfl
def FT1:CT:=(76,.pu FT1_h76)::(112,.pu FT1_h112)::FT0
theorem FT1_ok:CTok Tryz.prog FT1:=⟨tells1 fun s h=>padded_ev s h,
 tells1 fun s h=>takeOp_ev s h,FT0_ok⟩
@[simp] theorem FT1_get76:ctGet FT1 76=some (.pu FT1_h76):=rfl
@[simp] theorem FT1_get112:ctGet FT1 112=some (.pu FT1_h112):=rfl
@[simp] theorem FT1_skip {n:Nat} (h:(n==76||n==112)=false):ctGet FT1 n=ctGet FT0 n:=by
 simp only [Bool.or_eq_false_iff,beq_eq_false_iff_ne,ne_eq] at h
 simp [FT1,ctGet,h]
theorem spellN_len {o:OpV} (h:okP o):(spellN o).length≤40000000:=by
 have hl1:=numsN_len [o.site,o.seq,o.kind]
 have hl2:=numsN_len [o.of_,o.num,o.gen]
 have hl3:=elemN_len o.after
 have hl4:=bytesN_len' o.text.length
 have hl5:=numsN_len [(o.gone.length:Int)]
 have hl6:=h.text
 have hl7:=h.len
 have hl8:=flat_len o.gone
 simp only [List.length_cons,List.length_nil] at hl1 hl2 hl5
 unfold spellN headN midN
 split<;>simp only [List.length_append]<;>omega
theorem sealA_len {s:List UInt8} (h:s.length<4611686018427387800):(sealA s).length<4611686018427387904:=by
 have h1:=bytesN_len' s.length
 unfold sealA
 split
 ·simp -implicitDefEqProofs (maxSteps:=400000) (maxDischargeDepth:=6)
 ·simp only [List.length_append]
  have l1:(speltN (ofN (bytesN s.length++s))).length=4:=rfl
  omega
theorem framed_ev (e:EntryV) (h:okF e):PEv Tryz.prog 38 [Arg.enc e] (framedAV e):=by
 refine tells_of mixed FT1_ok Tryz.func38 sl38 ok38 (by kernel_rfl) (by simp -implicitDefEqProofs (maxSteps:=400000) (maxDischargeDepth:=6) [framedAV]) (by simp -implicitDefEqProofs (maxSteps:=400000) (maxDischargeDepth:=6) [entRow,opRow]) ?_
 obtain ⟨h1,h2⟩:=h
 cases c:e.join
 ·have ho:=h2 c
  have hl:=spellN_len ho
  have hb:=bytesN_len' 0
  have e1:plainN e=bytesN 0++spellN e.op:=by simp -implicitDefEqProofs (maxSteps:=400000) (maxDischargeDepth:=6) [plainN,c]
  have hp:(bytesN 0++spellN e.op).length≤50000000:=by simp only [List.length_append];omega
  have hs:=sealA_len (s:=bytesN 0++spellN e.op) (by omega)
  have l1:(bytesN 0).length+(spellN e.op).length≤9223372036854775807:=by omega
  by_cases h7:700<(bytesN 0++spellN e.op).length
  ·have e2:framedR e=([],2):=by rw [framedR,e1,if_pos h7]
   simp only [List.length_append] at h7
   have h7':(700:Int)<(bytesN 0).length+(spellN e.op).length:=by omega
   simp -implicitDefEqProofs (maxSteps:=400000) (maxDischargeDepth:=6) [s38,entRow,opRow,c,ho,l1,h7',framedAV,e2]
  ·have e2:framedR e=(padN (sealA (bytesN 0++spellN e.op)),0):=by rw [framedR,e1,if_neg h7]
   simp only [List.length_append] at h7
   have h7':¬(700:Int)<(bytesN 0).length+(spellN e.op).length:=by omega
   have l2:(bytesN 0).length+(spellN e.op).length<4611686018427387904:=by omega
   simp -implicitDefEqProofs (maxSteps:=400000) (maxDischargeDepth:=6) [s38,entRow,opRow,c,ho,l1,l2,h7',framedAV,e2,hs]
 ·obtain ⟨ho,ho'⟩:=h1 c
  have hb:=bytesN_len' 1
  have hl:=bytesN_len' e.nonce.toNat
  have e1:plainN e=bytesN 1++bytesN e.nonce.toNat:=by simp -implicitDefEqProofs (maxSteps:=400000) (maxDischargeDepth:=6) [plainN,c]
  have hs:=sealA_len (s:=bytesN 1++bytesN e.nonce.toNat) (by simp only [List.length_append];omega)
  have l1:(bytesN 1).length+(bytesN e.nonce.toNat).length≤9223372036854775807:=by omega
  have h7:¬700<(bytesN 1++bytesN e.nonce.toNat).length:=by simp only [List.length_append];omega
  have e2:framedR e=(padN (sealA (bytesN 1++bytesN e.nonce.toNat)),0):=by rw [framedR,e1,if_neg h7]
  have h7':¬(700:Int)<(bytesN 1).length+(bytesN e.nonce.toNat).length:=by omega
  have l2:(bytesN 1).length+(bytesN e.nonce.toNat).length<4611686018427387904:=by omega
  simp -implicitDefEqProofs (maxSteps:=400000) (maxDischargeDepth:=6) [s38,entRow,opRow,c,ho,ho',l1,l2,h7',framedAV,e2,hs]
end Go.AE
set_option linter.unusedVariables false
set_option linter.unusedSimpArgs false
set_option maxHeartbeats 4000000
set_option maxRecDepth 100000
namespace Go.AE
open Go Go.Proofs
theorem takeR_len (s:List UInt8):(takeR s).2.1.length≤s.length:=by
 cases hn:takeN s with
 |none=>simp -implicitDefEqProofs (maxSteps:=400000) (maxDischargeDepth:=6) [takeR,hn]
 |some q=>
  obtain ⟨n,t⟩:=q
  have:=(takeN_len hn).2
  simp -implicitDefEqProofs (maxSteps:=400000) (maxDischargeDepth:=6) [takeR,hn]
  omega
theorem takeTextR_len (s:List UInt8):(takeTextR s).1.length≤s.length∧(takeTextR s).2.1.length≤s.length:=by
 cases hn:takeN s with
 |none=>simp -implicitDefEqProofs (maxSteps:=400000) (maxDischargeDepth:=6) [takeTextR,hn]
 |some q=>
  obtain ⟨n,t⟩:=q
  have:=(takeN_len hn).2
  simp only [takeTextR,hn]
  split
  ·simp -implicitDefEqProofs (maxSteps:=400000) (maxDischargeDepth:=6);omega
  ·simp -implicitDefEqProofs (maxSteps:=400000) (maxDischargeDepth:=6)
theorem rdNum_len (r:RdV):(rdNum r).2.s.length≤r.s.length:=takeR_len r.s
theorem rdElem_len (r:RdV):(rdElem r).2.s.length≤r.s.length:=by
 have h1:=rdNum_len r
 have h2:=rdNum_len (rdNum r).2
 have h3:=rdNum_len (rdNum (rdNum r).2).2
 simp only [rdElem]
 omega
theorem rdElems_len (r:RdV):∀n,(rdElems n r).2.s.length≤r.s.length∧(rdElems n r).1.length=n
 |0=>⟨Nat.le_refl _,rfl⟩
 |n+1=>by
  obtain ⟨h1,h2⟩:=rdElems_len r n
  have:=rdElem_len (rdElems n r).2
  refine ⟨?_,by simp -implicitDefEqProofs (maxSteps:=400000) (maxDischargeDepth:=6) [rdElems,h2]⟩
  simp only [rdElems]
  omega
theorem rdOp_len (r:RdV):(rdOp r).1.text.length≤r.s.length∧(rdOp r).1.gone.length≤200∧(rdOp r).2.s.length≤r.s.length:=by
 have h1:=rdNum_len r
 have h2:=rdNum_len (rdNum r).2
 have h3:=rdNum_len (rdNum (rdNum r).2).2
 simp only [rdOp]
 split
 ·have h4:=rdNum_len (rdNum (rdNum (rdNum r).2).2).2
  have h5:=rdNum_len (rdNum (rdNum (rdNum (rdNum r).2).2).2).2
  have h6:=rdNum_len (rdNum (rdNum (rdNum (rdNum (rdNum r).2).2).2).2).2
  simp only [List.length_nil]
  omega
 ·have h4:=rdElem_len (rdNum (rdNum (rdNum r).2).2).2
  have h5:=takeTextR_len (rdElem (rdNum (rdNum (rdNum r).2).2).2).2.s
  have h6:=rdNum_len (rdText (rdElem (rdNum (rdNum (rdNum r).2).2).2).2).2
  obtain ⟨h7,h8⟩:=rdElems_len (rdNum (rdText (rdElem (rdNum (rdNum (rdNum r).2).2).2).2).2).2 (min (rdNum (rdText (rdElem (rdNum (rdNum (rdNum r).2).2).2).2).2).1.toNat 200)
  obtain ⟨h9,h10⟩:=h5
  simp only [rdText] at h6 h7 h8 ⊢
  refine ⟨by omega,by omega,by omega⟩
theorem takeOpR_len (s:List UInt8):(takeOpR s).1.text.length≤s.length∧(takeOpR s).1.gone.length≤200∧(takeOpR s).2.1.length≤s.length:=by
 obtain ⟨h1,h2,h3⟩:=rdOp_len ⟨s,false⟩
 unfold takeOpR
 split
 ·simp -implicitDefEqProofs (maxSteps:=400000) (maxDischargeDepth:=6) [zeroO]
 ·exact ⟨h1,h2,h3⟩
def zeroE:EntryV:=⟨false,0,zeroO⟩
def readE (s:List UInt8):EntryV×Bool:=
 if (takeR s).2.2≠0∨1<(takeR s).1 then (zeroE,false)
 else if (takeR s).1=1 then
  (⟨true,(takeR (takeR s).2.1).1,zeroO⟩,decide ((takeR (takeR s).2.1).2.2=0)&&decide ((takeR (takeR s).2.1).2.1=[])&&entMayB ⟨true,(takeR (takeR s).2.1).1,zeroO⟩)
 else (⟨false,0,(takeOpR (takeR s).2.1).1⟩,decide ((takeOpR (takeR s).2.1).2.2=0)&&decide ((takeOpR (takeR s).2.1).2.1=[])&&entMayB ⟨false,0,(takeOpR (takeR s).2.1).1⟩)
def readEAV (s:List UInt8):AV:=.t [(true,entRow .old (readE s).1),(false,[.raw (.bool (readE s).2)])]
theorem okO_zero:okO zeroO:=⟨by simp -implicitDefEqProofs (maxSteps:=400000) (maxDischargeDepth:=6) [zeroO],by simp -implicitDefEqProofs (maxSteps:=400000) (maxDischargeDepth:=6) [zeroO]⟩
theorem readE_ev (s:List UInt8) (hs:s.length<4611686018427387904):PEv Tryz.prog 82 [.c (.str s)] (readEAV s):=by
 refine tells_of mixed FT1_ok Tryz.func82 sl82 ok82 (by kernel_rfl) (by simp -implicitDefEqProofs (maxSteps:=400000) (maxDischargeDepth:=6) [readEAV,entRow,opRow]) (by simp -implicitDefEqProofs (maxSteps:=400000) (maxDischargeDepth:=6)) ?_
 have l1:=takeR_len s
 rcases e1:takeR s with ⟨n,r,x⟩
 rw [e1] at l1
 simp only at l1
 have l2:r.length<4611686018427387904:=by omega
 have hR:readE s=if x≠0∨1<n then (zeroE,false)
   else if n=1 then (⟨true,(takeR r).1,zeroO⟩,decide ((takeR r).2.2=0)&&decide ((takeR r).2.1=[])&&entMayB ⟨true,(takeR r).1,zeroO⟩)
   else (⟨false,0,(takeOpR r).1⟩,decide ((takeOpR r).2.2=0)&&decide ((takeOpR r).2.1=[])&&entMayB ⟨false,0,(takeOpR r).1⟩):=by simp only [readE,e1]
 have e1':takeAV s=.t [(false,[.raw (.int .i64 n)]),(false,[.str r]),(false,[.raw (.int .i64 x)])]:=by simp -implicitDefEqProofs (maxSteps:=400000) (maxDischargeDepth:=6) [takeAV,e1]
 by_cases c1:x=0
 rotate_left
 ·rw [if_pos (Or.inl c1)] at hR
  simp -implicitDefEqProofs (maxSteps:=400000) (maxDischargeDepth:=6) [s82,hs,e1',c1,readEAV,hR,entRow,opRow,zeroE,zeroO]
 by_cases c2:1<n
 ·rw [if_pos (Or.inr c2)] at hR
  have c2':(1:Int)<n:=by omega
  simp -implicitDefEqProofs (maxSteps:=400000) (maxDischargeDepth:=6) [s82,hs,e1',c1,c2',readEAV,hR,entRow,opRow,zeroE,zeroO]
 rw [if_neg (by omega)] at hR
 have c2':¬(1:Int)<n:=by omega
 by_cases c3:n=1
 ·rw [if_pos c3] at hR
  have c3':(n:Int)=1:=by omega
  rcases e2:takeR r with ⟨m,r2,x2⟩
  rw [e2] at hR
  simp only at hR
  have e2':takeAV r=.t [(false,[.raw (.int .i64 m)]),(false,[.str r2]),(false,[.raw (.int .i64 x2)])]:=by simp -implicitDefEqProofs (maxSteps:=400000) (maxDischargeDepth:=6) [takeAV,e2]
  have hz:okO zeroO:=okO_zero
  have hd:(⟨true,(m:Int),⟨0,0,0,⟨0,0,0⟩,[],[],0,0,0⟩⟩:EntryV)=⟨true,m,zeroO⟩:=rfl
  have hd2:∀w:Tag,opRow w zeroO=opRow w ⟨0,0,0,⟨0,0,0⟩,[],[],0,0,0⟩:=fun _=>rfl
  cases c4:decide (x2=0)
  ·rw [c4] at hR
   simp -implicitDefEqProofs (maxSteps:=400000) (maxDischargeDepth:=6) [s82,hs,l2,e1',e2',c1,c2',c3',c4,readEAV,hR,entRow,hd2,opRow]
   simp -implicitDefEqProofs (maxSteps:=400000) (maxDischargeDepth:=6) [zeroO]
  rw [c4] at hR
  cases c5:decide (r2=[])
  ·rw [c5] at hR
   simp -implicitDefEqProofs (maxSteps:=400000) (maxDischargeDepth:=6) [s82,hs,l2,e1',e2',c1,c2',c3',c4,c5,readEAV,hR,entRow,hd2,opRow]
   simp -implicitDefEqProofs (maxSteps:=400000) (maxDischargeDepth:=6) [zeroO]
  ·rw [c5] at hR
   simp -implicitDefEqProofs (maxSteps:=400000) (maxDischargeDepth:=6) [s82,hs,l2,e1',e2',c1,c2',c3',c4,c5,readEAV,hR,entRow,hd2,opRow,hz,hd]
   simp -implicitDefEqProofs (maxSteps:=400000) (maxDischargeDepth:=6) [zeroO]
 ·rw [if_neg c3] at hR
  have c3':¬(n:Int)=1:=by omega
  obtain ⟨g1,g2,g3⟩:=takeOpR_len r
  rcases e2:takeOpR r with ⟨o,r2,x2⟩
  rw [e2] at hR g1 g2 g3
  simp only at hR g1 g2 g3
  have ho:okO o:=⟨by omega,by omega⟩
  cases c4:decide (x2=0)
  ·rw [c4] at hR
   simp -implicitDefEqProofs (maxSteps:=400000) (maxDischargeDepth:=6) [s82,hs,l2,e1',e2,takeOpAV,c1,c2',c3',c4,readEAV,hR,entRow,opRow]
  rw [c4] at hR
  cases c5:decide (r2=[])
  ·rw [c5] at hR
   simp -implicitDefEqProofs (maxSteps:=400000) (maxDischargeDepth:=6) [s82,hs,l2,e1',e2,takeOpAV,c1,c2',c3',c4,c5,readEAV,hR,entRow,opRow]
  ·rw [c5] at hR
   simp -implicitDefEqProofs (maxSteps:=400000) (maxDischargeDepth:=6) [s82,hs,l2,e1',e2,takeOpAV,c1,c2',c3',c4,c5,readEAV,hR,entRow,opRow,ho]
theorem goneG_cons {o:OpV} {p:Option ElemV} {x:ElemV} {l:List ElemV} (h:goneG o p (x::l)=true):elemB x=true∧goneG o (some x) l=true:=by
 have key:∀(B:Bool) (X:Bool),(if decide (x=⟨0,0,0⟩)||!elemB x||ownB o x||B then false else X)=true→elemB x=true∧X=true:=by
  intro B X h
  cases h1:elemB x
  ·rw [h1] at h;simp -implicitDefEqProofs (maxSteps:=400000) (maxDischargeDepth:=6) at h
  ·refine ⟨rfl,?_⟩
   split at h
   ·cases h
   ·exact h
 cases p with
 |none=>exact key _ _ h
 |some q=>exact key _ _ h
theorem opMayB_ok {o:OpV} (h:opMayB o=true) (h1:o.text.length<1000000) (h2:o.gone.length<1000000):okP o:=by
 simp only [opMayB,Bool.and_eq_true] at h
 obtain ⟨hn,h⟩:=h
 have hn:=nameB_b hn
 by_cases hk:o.kind=1
 ·rw [if_pos hk] at h
  simp only [editB,Bool.and_eq_true,decide_eq_true_eq] at h
  obtain ⟨⟨⟨⟨⟨⟨⟨⟨⟨e1,_⟩,_⟩,_⟩,_⟩,_⟩,e2⟩,e3⟩,e4⟩,e5⟩:=h
  have hg:∀(l:List ElemV) (p:Option ElemV),goneG o p l=true→∀e∈l,okE e:=by
   intro l
   induction l with
   |nil=>intro p _ e he;simp -implicitDefEqProofs (maxSteps:=400000) (maxDischargeDepth:=6) at he
   |cons x l ih=>
    intro p hp e he
    obtain ⟨k1,k2⟩:=goneG_cons hp
    rcases List.mem_cons.1 he with rfl|he
    ·exact elemB_ok k1
    ·exact ih _ k2 e he
  simp only [goneB,Bool.and_eq_true] at e2
  exact ⟨⟨by omega,by omega⟩,⟨by omega,by omega⟩,by rw [hk];exact ⟨by omega,by omega⟩,by rw [e3];exact ⟨by omega,by omega⟩,by rw [e4];exact ⟨by omega,by omega⟩,by rw [e5];exact ⟨by omega,by omega⟩,elemB_ok e1,hg _ _ e2.1,h1,h2⟩
 ·rw [if_neg hk] at h
  simp only [toggleB,Bool.and_eq_true,decide_eq_true_eq,Bool.not_eq_true',decide_eq_false_iff_not] at h
  obtain ⟨hk2,⟨⟨⟨⟨⟨e1,_⟩,e2⟩,e3⟩,e4⟩,_⟩,e5⟩:=h
  have e1:=nameB_b e1
  exact ⟨⟨by omega,by omega⟩,⟨by omega,by omega⟩,by rw [hk2];exact ⟨by omega,by omega⟩,⟨by omega,by omega⟩,⟨by omega,by omega⟩,⟨by omega,by omega⟩,by rw [e4];exact ⟨⟨by simp -implicitDefEqProofs (maxSteps:=400000) (maxDischargeDepth:=6),by simp -implicitDefEqProofs (maxSteps:=400000) (maxDischargeDepth:=6)⟩,⟨by simp -implicitDefEqProofs (maxSteps:=400000) (maxDischargeDepth:=6),by simp -implicitDefEqProofs (maxSteps:=400000) (maxDischargeDepth:=6)⟩,by simp -implicitDefEqProofs (maxSteps:=400000) (maxDischargeDepth:=6),by simp -implicitDefEqProofs (maxSteps:=400000) (maxDischargeDepth:=6)⟩,by rw [e5];intro e he;simp -implicitDefEqProofs (maxSteps:=400000) (maxDischargeDepth:=6) at he,h1,h2⟩
theorem entMayB_ok {e:EntryV} (h:entMayB e=true) (h1:e.op.text.length<1000000) (h2:e.op.gone.length<1000000):okF e:=by
 unfold entMayB at h
 refine ⟨fun hj=>?_,fun hj=>?_⟩
 ·rw [hj] at h
  simp only [if_true,Bool.and_eq_true,decide_eq_true_eq] at h
  exact ⟨by omega,by omega⟩
 ·rw [hj] at h
  simp only [Bool.false_eq_true,if_false,Bool.and_eq_true] at h
  exact opMayB_ok h.2 h1 h2
theorem readE_ok {s:List UInt8} (hs:s.length<1000000) (h:(readE s).2=true):okF (readE s).1:=by
 have l1:=takeR_len s
 obtain ⟨g1,g2,g3⟩:=takeOpR_len (takeR s).2.1
 unfold readE at h ⊢
 split at h
 ·cases h
 ·rename_i c1
  rw [if_neg c1]
  split at h
  ·rename_i c2
   rw [if_pos c2]
   simp only [Bool.and_eq_true] at h
   exact entMayB_ok h.2 (by simp -implicitDefEqProofs (maxSteps:=400000) (maxDischargeDepth:=6) [zeroO]) (by simp -implicitDefEqProofs (maxSteps:=400000) (maxDischargeDepth:=6) [zeroO])
  ·rename_i c2
   rw [if_neg c2]
   simp only [Bool.and_eq_true] at h
   exact entMayB_ok h.2 (by show (takeOpR (takeR s).2.1).1.text.length<_;omega) (by show (takeOpR (takeR s).2.1).1.gone.length<_;omega)
end Go.AE
set_option linter.unusedVariables false
namespace Go.AE
open Go
theorem takeN_sp {s r:List UInt8} {n:Nat} (h:takeN s=some (n,r)):s=bytesN n++r:=by
 have go:∀(k m acc:Nat) (s r:List UInt8) (n j:Nat),1≤m→takeF k m acc s=some (n,r)→k≤j+1→∃q,n=acc+q*m∧s=bytesF j q++r∧(1<m→1≤q):=by
  intro k
  induction k with
  |zero=>intro m acc s r n j _ h;cases h
  |succ k ih=>
   intro m acc s r n j hm h hj
   cases s with
   |nil=>cases h
   |cons b s=>
    have hb:=b.toNat_lt
    rw [takeF] at h
    split at h
    ·rename_i hb8
     have hk:k≠0:=by rintro rfl;cases h
     obtain ⟨j,rfl⟩:∃i,j=i+1:=⟨j-1,by omega⟩
     obtain ⟨q,h1,h2,h3⟩:=ih _ _ _ _ _ j (by omega) h (by omega)
     have h3:=h3 (by omega)
     refine ⟨b.toNat%128+q*128,?_,?_,fun _=>by omega⟩
     ·rw [h1,Nat.add_mul,Nat.mul_assoc,Nat.mul_comm m 128];omega
     ·have e1:¬b.toNat%128+q*128<128:=by omega
      have e2:(b.toNat%128+q*128)%128+128=b.toNat:=by omega
      have e3:(b.toNat%128+q*128)/128=q:=by omega
      have e4:UInt8.ofNat b.toNat=b:=by simp
      rw [bytesF,if_neg e1,e2,e3,e4,h2]
      rfl
    ·split at h
     ·cases h
     ·rename_i hb8 hc
      cases h
      have e0:b.toNat%128=b.toNat:=by omega
      refine ⟨b.toNat,by rw [e0],?_,fun h1=>by omega⟩
      have e4:UInt8.ofNat b.toNat=b:=by simp
      cases j with
      |zero=>rw [bytesF,e4];rfl
      |succ j=>rw [bytesF,if_pos (by omega),e4];rfl
 obtain ⟨q,h1,h2,_⟩:=go 5 1 0 s r n 9 (Nat.le_refl _) h (by omega)
 have:n=q:=by omega
 rw [this]
 exact h2
theorem rdNum_sp {r:RdV} (h:(rdNum r).2.bad=false):r.bad=false∧r.s=bytesN (rdNum r).1.toNat++(rdNum r).2.s:=by
 simp only [rdNum,Bool.or_eq_false_iff] at h
 obtain ⟨h1,h2⟩:=h
 refine ⟨h1,?_⟩
 simp only [rdNum,takeR] at h2 ⊢
 cases hn:takeN r.s with
 |none=>simp [hn] at h2
 |some q=>exact takeN_sp hn
theorem rdText_sp {r:RdV} (h:(rdText r).2.bad=false):r.bad=false∧r.s=bytesN (rdText r).1.length++(rdText r).1++(rdText r).2.s:=by
 simp only [rdText,Bool.or_eq_false_iff] at h
 obtain ⟨h1,h2⟩:=h
 refine ⟨h1,?_⟩
 simp only [rdText,takeTextR] at h2 ⊢
 cases hn:takeN r.s with
 |none=>simp [hn] at h2
 |some q=>
  obtain ⟨n,t⟩:=q
  simp only [hn] at h2 ⊢
  split
  ·rename_i hl
   have e:(t.take n).length=n:=by rw [List.length_take];omega
   simp only [e]
   rw [List.append_assoc,List.take_append_drop]
   exact takeN_sp hn
  ·rename_i hl
   rw [if_neg hl] at h2
   simp at h2
theorem rdElem_sp {r:RdV} (h:(rdElem r).2.bad=false):r.bad=false∧r.s=elemN (rdElem r).1++(rdElem r).2.s:=by
 have h3:=rdNum_sp (r:=(rdNum (rdNum r).2).2) h
 have h2:=rdNum_sp h3.1
 have h1:=rdNum_sp h2.1
 refine ⟨h1.1,?_⟩
 rw [h1.2,h2.2,h3.2]
 simp [rdElem,elemN,numsN]
theorem rdElems_sp (r:RdV):∀n,(rdElems n r).2.bad=false→r.bad=false∧r.s=(rdElems n r).1.flatMap elemN++(rdElems n r).2.s
 |0,h=>⟨h,rfl⟩
 |n+1,h=>by
  have h1:=rdElem_sp (r:=(rdElems n r).2) h
  obtain ⟨h2,h3⟩:=rdElems_sp r n h1.1
  refine ⟨h2,?_⟩
  rw [h3,h1.2]
  simp [rdElems]
theorem rdOp_sp {r:RdV} (h:(rdOp r).2.bad=false):r.bad=false∧opMayB (rdOp r).1=true∧r.s=spellN (rdOp r).1++(rdOp r).2.s:=by
 by_cases hk:(rdNum (rdNum (rdNum r).2).2).1=2
 ·simp only [rdOp,if_pos hk,Bool.or_eq_false_iff] at h ⊢
  obtain ⟨h,hm⟩:=h
  have h6:=rdNum_sp h
  have h5:=rdNum_sp h6.1
  have h4:=rdNum_sp h5.1
  have h3:=rdNum_sp h4.1
  have h2:=rdNum_sp h3.1
  have h1:=rdNum_sp h2.1
  refine ⟨h1.1,by simpa using hm,?_⟩
  rw [h1.2,h2.2,h3.2,h4.2,h5.2,h6.2]
  simp [spellN,hk,headN,numsN]
 ·simp only [rdOp,if_neg hk,Bool.or_eq_false_iff] at h ⊢
  obtain ⟨⟨h,hn⟩,hm⟩:=h
  have h7:=rdElems_sp _ _ h
  have h6:=rdNum_sp h7.1
  have h5:=rdText_sp h6.1
  have h4:=rdElem_sp h5.1
  have h3:=rdNum_sp h4.1
  have h2:=rdNum_sp h3.1
  have h1:=rdNum_sp h2.1
  refine ⟨h1.1,by simpa using hm,?_⟩
  have hl:=(rdElems_len (rdNum (rdText (rdElem (rdNum (rdNum (rdNum r).2).2).2).2).2).2 (min (rdNum (rdText (rdElem (rdNum (rdNum (rdNum r).2).2).2).2).2).1.toNat 200)).2
  have hnn:=rdNum_nn (rdText (rdElem (rdNum (rdNum (rdNum r).2).2).2).2).2
  have hn:=of_decide_eq_false hn
  have e:(rdElems (min (rdNum (rdText (rdElem (rdNum (rdNum (rdNum r).2).2).2).2).2).1.toNat 200) (rdNum (rdText (rdElem (rdNum (rdNum (rdNum r).2).2).2).2).2).2).1.length=(rdNum (rdText (rdElem (rdNum (rdNum (rdNum r).2).2).2).2).2).1.toNat:=by rw [hl];omega
  rw [h1.2,h2.2,h3.2,h4.2,h5.2,h6.2,h7.2]
  simp [spellN,hk,headN,midN,numsN,e]
  rw [Int.max_eq_left hnn.1]
theorem takeOpR_sp {s:List UInt8} (h:(takeOpR s).2.2=0):s=spellN (takeOpR s).1++(takeOpR s).2.1:=by
 unfold takeOpR at h ⊢
 split
 ·rename_i hb;rw [if_pos hb] at h;cases h
 ·rename_i hb
  exact (rdOp_sp (r:=⟨s,false⟩) (by simpa using hb)).2.2
theorem takeR_sp {s:List UInt8} (h:(takeR s).2.2=0):s=bytesN (takeR s).1++(takeR s).2.1:=by
 unfold takeR at h ⊢
 cases hn:takeN s with
 |none=>simp [hn] at h
 |some q=>exact takeN_sp hn
theorem readE_sp {s:List UInt8} (h:(readE s).2=true):plainN (readE s).1=s:=by
 unfold readE at h ⊢
 split
 ·rename_i c;rw [if_pos c] at h;cases h
 ·rename_i c
  rw [if_neg c] at h
  have c1:(takeR s).2.2=0:=by
   refine Classical.byContradiction fun q=>c (.inl q)
  have h1:=takeR_sp c1
  split
  ·rename_i c2
   rw [if_pos c2] at h
   simp only [Bool.and_eq_true,decide_eq_true_eq] at h
   have h2:=takeR_sp h.1.1
   rw [h.1.2] at h2
   rw [c2] at h1
   simp only [plainN,if_true,Int.toNat_natCast]
   rw [List.append_nil] at h2
   exact (congrArg (bytesN 1++·) h2.symm).trans h1.symm
  ·rename_i c2
   rw [if_neg c2] at h
   simp only [Bool.and_eq_true,decide_eq_true_eq] at h
   have h2:=takeOpR_sp h.1.1
   rw [h.1.2,List.append_nil] at h2
   have c3:(takeR s).1=0:=by
    have:¬1<(takeR s).1:=fun q=>c (.inr q)
    omega
   rw [c3] at h1
   simp only [plainN,Bool.false_eq_true,if_false]
   rw [←h2]
   exact h1.symm
theorem sealT_sp {s t r:List UInt8} (h:sealT s=some (t,r)):s=sealA t++r∧t.length≤700:=by
 unfold sealT at h
 cases hn:takeN s with
 |none=>simp [hn] at h
 |some q=>
  obtain ⟨n,q⟩:=q
  simp only [hn] at h
  split at h
  ·cases h
  ·rename_i hc
   split at h
   ·rename_i hs
    have hs1:=takeN_sp hn
    simp only [Option.some.injEq,Prod.mk.injEq] at h
    obtain ⟨ht,hr⟩:=h
    have hl:t.length=n:=by rw [←ht];simp;omega
    have e1:s.take (s.length-q.length)=bytesN n:=by
     conv=>lhs;rw [hs1]
     simp
    rw [e1,ht] at hs
    refine ⟨?_,by omega⟩
    have e2:q=speltN (ofN (bytesN n++t))++(t++r):=by
     rw [←hs,←hr,←ht]
     have:q.take (4+n)=q.take 4++(q.take (4+n)).drop 4:=by
      conv=>lhs;rw [←List.take_append_drop 4 (q.take (4+n))]
      rw [List.take_take]
      congr 2
      omega
     rw [←List.append_assoc,←this,List.take_append_drop]
    rw [sealA,if_neg (by omega),hl]
    conv=>lhs;rw [hs1,e2]
    simp
   ·cases h
end Go.AE
set_option linter.unusedVariables false
set_option linter.unusedSimpArgs false
set_option maxHeartbeats 4000000
set_option maxRecDepth 100000
namespace Go.AE
open Go Go.Proofs
def FT2_h38:List AV→Option (Prop×AV):=t1 okF fun e:EntryV=>framedAV e
@[simp] theorem FT2_ap38 {l:List AV}:FT2_h38 l=(t1 okF fun e:EntryV=>framedAV e) l:=rfl
def FT2_h82:List AV→Option (Prop×AV):=t1 (fun s=>s.length<4611686018427387904) fun s:List UInt8=>readEAV s
@[simp] theorem FT2_ap82 {l:List AV}:FT2_h82 l=(t1 (fun s=>s.length<4611686018427387904) fun s:List UInt8=>readEAV s) l:=rfl
def FT2:CT:=(38,.pu FT2_h38)::(82,.pu FT2_h82)::FT1
theorem FT2_ok:CTok Tryz.prog FT2:=⟨tells1 fun e h=>framed_ev e h,
 tells1 fun s h=>readE_ev s h,FT1_ok⟩
@[simp] theorem FT2_get38:ctGet FT2 38=some (.pu FT2_h38):=rfl
@[simp] theorem FT2_get82:ctGet FT2 82=some (.pu FT2_h82):=rfl
@[simp] theorem FT2_skip {n:Nat} (h:(n==38||n==82)=false):ctGet FT2 n=ctGet FT1 n:=by
 simp only [Bool.or_eq_false_iff,beq_eq_false_iff_ne,ne_eq] at h
 simp [FT2,ctGet,h]
def firstR (s:List UInt8):EntryV×Nat×Bool:=
 match sealT s with
 |none=>(zeroE,0,false)
 |some (t,_)=>if (readE t).2 then ((readE t).1,(framedR (readE t).1).1.length/32,prefB s (framedR (readE t).1).1) else ((readE t).1,0,false)
def firstAV (r:EntryV×Nat×Bool):AV:=.t [(true,entRow .old r.1),(false,[.raw (.int .i64 r.2.1)]),(false,[.raw (.bool r.2.2)])]
theorem flat32:∀{l:List (List UInt8)},(∀x∈l,x.length=32)→l.flatten.length=32*l.length
 |[],_=>rfl
 |x::l,h=>by
  have h1:=h x List.mem_cons_self
  have h2:=flat32 (l:=l) fun y hy=>h y (List.mem_cons_of_mem _ hy)
  simp only [List.flatten_cons,List.length_append,List.length_cons]
  omega
theorem framedR_len (x:EntryV):(framedR x).1.length≤800:=by
 unfold framedR
 split
 ·simp -implicitDefEqProofs (maxSteps:=400000) (maxDischargeDepth:=6)
 ·rename_i h
  have h1:=bytesN_len' (plainN x).length
  have l1:(speltN (ofN (bytesN (plainN x).length++plainN x))).length=4:=rfl
  simp only [padN,sealA,if_neg h,List.length_append,List.length_replicate,l1,padL]
  omega
theorem firstR_ok {s:List UInt8} (h:(firstR s).2.2=true):1≤(firstR s).2.1∧32*(firstR s).2.1≤s.length∧(firstR s).2.1≤25:=by
 unfold firstR at h ⊢
 cases hq:sealT s with
 |none=>simp -implicitDefEqProofs (maxSteps:=400000) (maxDischargeDepth:=6) [hq] at h
 |some q=>
  obtain ⟨t,r⟩:=q
  obtain ⟨hsp,ht7⟩:=sealT_sp hq
  simp only [hq] at h ⊢
  split
  ·rename_i hr
   rw [if_pos hr] at h
   have hp:=readE_sp hr
   simp only at h ⊢
   have e:(framedR (readE t).1).1=padN (sealA t):=by rw [framedR,hp,if_neg (by omega)]
   have hl:=framedR_len (readE t).1
   rw [e] at h hl ⊢
   have hpre:(padN (sealA t)).length≤s.length:=by
    have:=List.isPrefixOf_iff_prefix.1 h
    exact this.length_le
   have h5:5≤(sealA t).length:=by
    rw [sealA,if_neg (by omega)]
    have l1:(speltN (ofN (bytesN t.length++t))).length=4:=rfl
    have l2:1≤(bytesN t.length).length:=by
     show 1≤(bytesF 9 t.length).length
     rw [bytesF]
     split<;>simp -implicitDefEqProofs (maxSteps:=400000) (maxDischargeDepth:=6)
    simp only [List.length_append,l1]
    omega
   have hm:(padN (sealA t)).length=(sealA t).length+padL (sealA t).length:=by simp -implicitDefEqProofs (maxSteps:=400000) (maxDischargeDepth:=6) [padN]
   unfold padL at hm
   omega
  ·rename_i hr
   rw [if_neg hr] at h
   cases h
theorem first_ev (l:List (List UInt8)) (hl:∀x∈l,x.length=32) (hn:l.length<1000000):PEv Tryz.prog 42 [Arg.enc l] (firstAV (firstR (l.take 23).flatten)):=by
 refine tells_of mixed FT2_ok Tryz.func42 sl42 ok42 (by kernel_rfl) (by simp -implicitDefEqProofs (maxSteps:=400000) (maxDischargeDepth:=6) [firstAV,entRow,opRow]) (by simp -implicitDefEqProofs (maxSteps:=400000) (maxDischargeDepth:=6)) ?_
 obtain ⟨m,hm⟩:∃m,m=min l.length 23:=⟨_,rfl⟩
 have hmi:(if (23:Int)<l.length then (23:Int) else l.length)=(m:Int):=by split<;>omega
 have ht:l.take 23=l.take m:=by
  rw [hm]
  by_cases h:l.length≤23
  ·rw [Nat.min_eq_left h,List.take_of_length_le h,List.take_length]
  ·rw [Nat.min_eq_right (by omega)]
 have htr:List.take m (rowsE l)=rowsE (l.take m):=by simp -implicitDefEqProofs (maxSteps:=400000) (maxDischargeDepth:=6) [rowsE]
 have hf:(l.take m).flatten.length=32*m:=by
  rw [flat32 fun x hx=>hl x (List.mem_of_mem_take hx),List.length_take]
  omega
 have hml:m≤l.length:=by omega
 have hm23:m≤23:=by omega
 rw [ht]
 obtain ⟨s,hs⟩:∃s,s=(l.take m).flatten:=⟨_,rfl⟩
 rw [←hs] at hf ⊢
 have b1:(l.take m).length<1000000:=by rw [List.length_take];omega
 have b2:(l.take m).flatten.length≤140737488355328:=by rw [←hs];omega
 have b3:s.length<4611686018427387904:=by omega
 have b1':m<1000000:=by omega
 have b2':(List.take m (List.map List.length l)).sum≤140737488355328:=by simpa using b2
 cases hq:sealT s with
 |none=>
  have e1:sealTAV s=.t [(false,[.str []]),(false,[.str []]),(false,[.raw (.bool false)])]:=by simp -implicitDefEqProofs (maxSteps:=400000) (maxDischargeDepth:=6) [sealTAV,hq]
  have e2:firstR s=(zeroE,0,false):=by simp -implicitDefEqProofs (maxSteps:=400000) (maxDischargeDepth:=6) [firstR,hq]
  simp -implicitDefEqProofs (maxSteps:=400000) (maxDischargeDepth:=6) [s42,hmi,hml,htr,←hs,b1',b2',b3,e1,e2,firstAV,entRow,opRow,zeroE,zeroO]
 |some q=>
  obtain ⟨t,r⟩:=q
  have e1:sealTAV s=.t [(false,[.str t]),(false,[.str r]),(false,[.raw (.bool true)])]:=by simp -implicitDefEqProofs (maxSteps:=400000) (maxDischargeDepth:=6) [sealTAV,hq]
  obtain ⟨hsp,ht7⟩:=sealT_sp hq
  have b4:t.length<4611686018427387904:=by omega
  rcases e3:readE t with ⟨x,ok⟩
  have e3':readEAV t=.t [(true,entRow .old x),(false,[.raw (.bool ok)])]:=by simp -implicitDefEqProofs (maxSteps:=400000) (maxDischargeDepth:=6) [readEAV,e3]
  cases ok
  ·have e2:firstR s=(x,0,false):=by simp -implicitDefEqProofs (maxSteps:=400000) (maxDischargeDepth:=6) [firstR,hq,e3]
   simp -implicitDefEqProofs (maxSteps:=400000) (maxDischargeDepth:=6) [s42,hmi,hml,htr,←hs,b1',b2',b3,b4,e1,e2,e3',firstAV,entRow,opRow]
  ·have e2:firstR s=(x,(framedR x).1.length/32,prefB s (framedR x).1):=by simp -implicitDefEqProofs (maxSteps:=400000) (maxDischargeDepth:=6) [firstR,hq,e3]
   have hx:=readE_ok (s:=t) (by omega) (by rw [e3])
   rw [e3] at hx
   simp only at hx
   have e4:framedAV x=.t [(false,[.str (framedR x).1]),(false,[.raw (.int .i64 (framedR x).2)])]:=rfl
   generalize hb:(framedR x).1=b at e2 e4
   simp -implicitDefEqProofs (maxSteps:=400000) (maxDischargeDepth:=6) [s42,Call.operands,hmi,hml,htr,←hs,b1',b2',b3,b4,e1,e2,e3',e4,hx,firstAV,entRow,opRow]
   have hbl:=framedR_len x
   rw [hb] at hbl
   refine ⟨fun a a1 b _ h _=>by omega,?_⟩
   rw [wrap64_id]<;>omega
end Go.AE
set_option linter.unusedVariables false
set_option linter.unusedSimpArgs false
set_option maxHeartbeats 4000000
set_option maxRecDepth 100000
namespace Go.AE
open Go Go.Proofs
def secs (l:List (List UInt8)):Prop:=∀x∈l,x.length=32
def FT3_h42:List AV→Option (Prop×AV):=t1 (fun l=>secs l∧l.length<1000000) fun l:List (List UInt8)=>firstAV (firstR (l.take 23).flatten)
@[simp] theorem FT3_ap42 {l:List AV}:FT3_h42 l=(t1 (fun l=>secs l∧l.length<1000000) fun l:List (List UInt8)=>firstAV (firstR (l.take 23).flatten)) l:=rfl
def FT3:CT:=(42,.pu FT3_h42)::FT2
theorem FT3_ok:CTok Tryz.prog FT3:=⟨tells1 fun l h=>first_ev l h.1 h.2,FT2_ok⟩
@[simp] theorem FT3_get42:ctGet FT3 42=some (.pu FT3_h42):=rfl
@[simp] theorem FT3_skip {n:Nat} (h:(n==42)=false):ctGet FT3 n=ctGet FT2 n:=by
 simp only [Bool.or_eq_false_iff,beq_eq_false_iff_ne,ne_eq] at h
 simp [FT3,ctGet,h]
def loadF:Nat→List (List UInt8)→Nat→List EntryV×Nat
 |0,_,a=>([],a)
 |k+1,l,a=>if l=[] then ([],a) else
  if (firstR (l.take 23).flatten).2.2 then
   ((firstR (l.take 23).flatten).1::(loadF k (l.drop (firstR (l.take 23).flatten).2.1) (a+(firstR (l.take 23).flatten).2.1)).1,(loadF k (l.drop (firstR (l.take 23).flatten).2.1) (a+(firstR (l.take 23).flatten).2.1)).2)
  else ([],a)
def loadR (d:DiskV):List EntryV×Nat×Int:=if mayB d=true then ((loadF d.safe.length d.safe 0).1,(loadF d.safe.length d.safe 0).2,0) else ([],0,1)
def loadAV (r:List EntryV×Nat×Int):AV:=.t [(false,[.nw 48 13 (rowsE r.1)]),(false,[.raw (.int .i64 r.2.1)]),(false,[.raw (.int .i64 r.2.2)])]
theorem mayB_secs {d:DiskV} (h:mayB d=true):secs d.safe∧1≤d.safe.length∧d.safe.length≤400:=by
 simp only [mayB,Bool.and_eq_true,decide_eq_true_eq,List.all_eq_true] at h
 obtain ⟨⟨⟨⟨h1,h2⟩,_⟩,h3⟩,_⟩:=h
 exact ⟨fun x hx=>by simpa [isSec] using h3 x hx,h1,h2⟩
theorem load_ev (d:DiskV) (h1:d.safe.length<1000000) (h2:d.wait.length<1000000):PEv Tryz.prog 12 [Arg.enc d] (loadAV (loadR d)):=by
 refine tells_of mixed FT3_ok Tryz.func12 sl12 ok12 (by kernel_rfl) (by simp -implicitDefEqProofs (maxSteps:=400000) (maxDischargeDepth:=6) [loadAV]) (by simp -implicitDefEqProofs (maxSteps:=400000) (maxDischargeDepth:=6)) ?_
 cases hm:mayB d
 ·have e:loadR d=([],0,1):=by simp -implicitDefEqProofs (maxSteps:=400000) (maxDischargeDepth:=6) [loadR,hm]
  simp -implicitDefEqProofs (maxSteps:=400000) (maxDischargeDepth:=6) [s12,h1,h2,hm,e,loadAV]
 obtain ⟨hsec,hl1,hl4⟩:=mayB_secs hm
 have e:loadR d=((loadF d.safe.length d.safe 0).1,(loadF d.safe.length d.safe 0).2,0):=by simp -implicitDefEqProofs (maxSteps:=400000) (maxDischargeDepth:=6) [loadR,hm]
 obtain ⟨R,hR⟩:∃R,R=loadF d.safe.length d.safe 0:=⟨_,rfl⟩
 rw [←hR] at e
 simp -implicitDefEqProofs (maxSteps:=400000) (maxDischargeDepth:=6) [s12,h1,h2,hm,e,loadAV]
 refine loop_n (fun q st=>∃(a k:Nat) (acc:List EntryV),a≤d.safe.length∧q=d.safe.length-a∧d.safe.length-a≤k∧st.s 1=.c (.pt (0,1) 0 0)∧st.s 3=.c (.raw (.int .i64 a))∧acc.length≤a∧
  acc++(loadF k (d.safe.drop a) a).1=R.1∧(loadF k (d.safe.drop a) a).2=R.2∧st.H (0,1)=.arr 30 2 false [[.sl .brw false (rowsE d.safe),.sl .brw false (rowsE d.wait)]]∧
  ((st.s 2=.c (.raw (.slice none 0 0))∧acc=[])∨∃id,st.s 2=.c (.so id 0 acc.length)∧st.H id=.arr 48 13 false (rowsE acc))∧0<st.T∧Fresh st.H st.T) d.safe.length ?_ ?_
 ·refine ⟨0,d.safe.length,[],by omega,by omega,by omega,?_⟩
  simp -implicitDefEqProofs (maxSteps:=400000) (maxDischargeDepth:=6) [hR]
  (repeat' (first|exact fresh_no.mono (Nat.zero_le _)|(refine Fresh.set' ?_ (by simp))))
 rintro q st ⟨a,k,acc,ha,rfl,hk,q1,q3,hac,hr1,hr2,hD,hown,hT,hf⟩
 have hfu:∀k d,st.T≤k→st.H (k,d)=.unborn:=hf
 have hfu3:∀d,st.H (st.T+1+1+1,d)=.unborn:=fun d=>hf _ _ (by omega)
 by_cases hlt:a<d.safe.length
 ·have hlt':(a:Int)<d.safe.length:=by omega
  have hle:a≤d.safe.length:=by omega
  have htr:List.drop a (rowsE d.safe)=rowsE (d.safe.drop a):=by simp -implicitDefEqProofs (maxSteps:=400000) (maxDischargeDepth:=6) [rowsE]
  have hs2:secs (d.safe.drop a):=fun x hx=>hsec x (List.mem_of_mem_drop hx)
  have hs3:d.safe.length-a<1000000:=by omega
  obtain ⟨k,rfl⟩:∃j,k=j+1:=⟨k-1,by omega⟩
  have hne:d.safe.drop a≠[]:=by intro h;have:=congrArg List.length h;simp -implicitDefEqProofs (maxSteps:=400000) (maxDischargeDepth:=6) at this;omega
  rw [loadF,if_neg hne] at hr1 hr2
  obtain ⟨S,hS⟩:∃S,S=((d.safe.drop a).take 23).flatten:=⟨_,rfl⟩
  have hSl:S.length≤32*(d.safe.length-a):=by
   rw [hS,flat32 fun x hx=>hs2 x (List.mem_of_mem_take hx),List.length_take,List.length_drop]
   omega
  rw [←hS] at hr1 hr2
  have hok:=@firstR_ok S
  rcases hfr:firstR S with ⟨x,n,ok⟩
  rw [hfr] at hr1 hr2 hok
  simp only at hr1 hr2 hok
  cases ok
  ·simp only [Bool.false_eq_true,if_false] at hr1 hr2
   rcases hown with ⟨q2,rfl⟩|⟨id,q2,hid⟩
   ·simp -implicitDefEqProofs (maxSteps:=400000) (maxDischargeDepth:=6) [s12L0,q1,q2,q3,hD,hlt',hle,htr,hs2,hs3,←hS,hfr,firstAV,entRow,opRow,hfu]
    exact ⟨by simpa using hr1.symm,hr2⟩
   ·obtain ⟨p1,p2,p3⟩:=hf.arr hid
    simp -implicitDefEqProofs (maxSteps:=400000) (maxDischargeDepth:=6) [s12L0,q1,q2,q3,hD,hlt',hle,htr,hs2,hs3,←hS,hfr,firstAV,entRow,opRow,hfu,hid,p1,p2]
    simp only [List.append_nil] at hr1
    exact ⟨⟨hr1,by rw [hr1]⟩,hr2⟩
  ·simp only [if_true] at hr1 hr2
   obtain ⟨n1,n2,n3⟩:=hok rfl
   have hdd:(d.safe.drop a).drop n=d.safe.drop (a+n):=by rw [List.drop_drop]
   rw [hdd] at hr1 hr2
   have hr2':=hr2
   have hw:IntKind.wrap .i64 ((a:Int)+n)=((a+n:Nat):Int):=by rw [wrap64_id]<;>omega
   rcases hown with ⟨q2,rfl⟩|⟨id,q2,hid⟩
   ·simp -implicitDefEqProofs (maxSteps:=400000) (maxDischargeDepth:=6) [s12L0,q1,q2,q3,hD,hlt',hle,htr,hs2,hs3,←hS,hfr,firstAV,entRow,opRow,hfu,hfu3,hw]
    refine ⟨d.safe.length-(a+n),by omega,a+n,by omega,rfl,k,by omega,by simp -implicitDefEqProofs (maxSteps:=400000) (maxDischargeDepth:=6),[x],by simp -implicitDefEqProofs (maxSteps:=400000) (maxDischargeDepth:=6);omega,?_,hr2',⟨_,_,⟨⟨rfl,rfl⟩,rfl⟩,?_⟩,?_⟩
    ·simpa [hdd] using hr1
    ·simp -implicitDefEqProofs (maxSteps:=400000) (maxDischargeDepth:=6) [rowsE,entRow,opRow]
    ·repeat' (first|exact hf.mono (by first|omega|(simp<;>omega))|(refine Fresh.set' ?_ (by first|omega|(simp<;>omega))))
   ·obtain ⟨p1,p2,p3⟩:=hf.arr hid
    have p4:∀d,((st.T+1+1+1,d)=id)=False:=fun d=>p1 _ d (by omega)
    have p5:∀d,(id=(st.T+1+1+1,d))=False:=fun d=>p2 _ d (by omega)
    have p6:∀d,((st.T+1,d)=id)=False:=fun d=>p1 _ d (by omega)
    have p7:∀d,(id=(st.T+1,d))=False:=fun d=>p2 _ d (by omega)
    simp -implicitDefEqProofs (maxSteps:=400000) (maxDischargeDepth:=6) [s12L0,q1,q2,q3,hD,hlt',hle,htr,hs2,hs3,←hS,hfr,firstAV,entRow,opRow,hfu,hfu3,hid,p1,p2,p4,p5,p6,p7,hw]
    refine ⟨⟨by omega,by omega⟩,d.safe.length-(a+n),by omega,a+n,by omega,rfl,k,by omega,by simp -implicitDefEqProofs (maxSteps:=400000) (maxDischargeDepth:=6),acc++[x],by simp -implicitDefEqProofs (maxSteps:=400000) (maxDischargeDepth:=6);omega,by simpa using hr1,hr2',?_,⟨_,_,⟨⟨rfl,rfl⟩,by simp -implicitDefEqProofs (maxSteps:=400000) (maxDischargeDepth:=6)⟩,?_⟩,?_⟩
    ·intro h
     rw [←h,hD] at hid
     simp -implicitDefEqProofs (maxSteps:=400000) (maxDischargeDepth:=6) at hid
    ·simp -implicitDefEqProofs (maxSteps:=400000) (maxDischargeDepth:=6) [rowsE,entRow,opRow]
    ·repeat' (first|exact hf.mono (by first|omega|(simp<;>omega))|(refine Fresh.set' ?_ (by first|omega|(simp<;>omega))))
 ·have:a=d.safe.length:=by omega
  subst this
  have hd:d.safe.drop d.safe.length=[]:=List.drop_length
  have hr3:(loadF k (d.safe.drop d.safe.length) d.safe.length)=([],d.safe.length):=by
   rw [hd]
   cases k with
   |zero=>rfl
   |succ k=>rw [loadF,if_pos rfl]
  rw [hr3] at hr1 hr2
  simp only [List.append_nil] at hr1 hr2
  rcases hown with ⟨q2,rfl⟩|⟨id,q2,hid⟩
  ·simp -implicitDefEqProofs (maxSteps:=400000) (maxDischargeDepth:=6) [s12L0,q1,q2,q3,hD,←hr1,←hr2]
  ·simp -implicitDefEqProofs (maxSteps:=400000) (maxDischargeDepth:=6) [s12L0,q1,q2,q3,hD,←hr1,←hr2,hid]
end Go.AE
set_option linter.unusedVariables false
set_option linter.unusedSimpArgs false
set_option maxHeartbeats 4000000
set_option maxRecDepth 100000
namespace Go.AE
open Go Go.Proofs
def noD:DiskV:=⟨[],[]⟩
def sect (s:List UInt8) (i:Nat):List UInt8:=(s.drop (32*i)).take 32
def appF (s:List UInt8) (at_:Int):Nat→Nat→DiskV→DiskV×Int
 |0,_,d=>(d,0)
 |k+1,i,d=>if (putR d (at_+i) (sect s i)).2=0 then appF s at_ k (i+1) (putR d (at_+i) (sect s i)).1 else (noD,(putR d (at_+i) (sect s i)).2)
def appendR (d:DiskV) (at_:Int) (e:EntryV):DiskV×Int×Int:=
 if mayB d=true∧entMayB e=true∧0≤at_ then
  if (framedR e).2=0 then
   if (((framedR e).1.length/32:Nat):Int)>(d.safe.length:Int)-min at_ (d.safe.length:Int) then (noD,0,6)
   else if (appF (framedR e).1 at_ ((framedR e).1.length/32) 0 d).2=0 then ((appF (framedR e).1 at_ ((framedR e).1.length/32) 0 d).1,at_+((framedR e).1.length/32:Nat),0)
   else (noD,0,(appF (framedR e).1 at_ ((framedR e).1.length/32) 0 d).2)
  else (noD,0,(framedR e).2)
 else (noD,0,1)
def appendAV (r:DiskV×Int×Int):AV:=.t [(true,diskNw r.1),(false,[.raw (.int .i64 r.2.1)]),(false,[.raw (.int .i64 r.2.2)])]
theorem framedR_ok {e:EntryV} (h:(framedR e).2=0):1≤(framedR e).1.length/32∧32*((framedR e).1.length/32)=(framedR e).1.length∧(framedR e).1.length/32≤25:=by
 have hl:=framedR_len e
 unfold framedR at h hl ⊢
 split at h
 ·cases h
 ·rename_i h7
  rw [if_neg h7] at hl ⊢
  have h5:5≤(sealA (plainN e)).length:=by
   rw [sealA,if_neg (by omega)]
   have l1:(speltN (ofN (bytesN (plainN e).length++plainN e))).length=4:=rfl
   have l2:1≤(bytesN (plainN e).length).length:=by
    show 1≤(bytesF 9 (plainN e).length).length
    rw [bytesF]
    split<;>simp -implicitDefEqProofs (maxSteps:=400000) (maxDischargeDepth:=6)
   simp only [List.length_append,l1]
   omega
  have hm:(padN (sealA (plainN e))).length=(sealA (plainN e)).length+padL (sealA (plainN e)).length:=by simp -implicitDefEqProofs (maxSteps:=400000) (maxDischargeDepth:=6) [padN]
  unfold padL at hm
  simp only at hl ⊢
  omega
theorem mayB_wait {d:DiskV} (h:mayB d=true):d.wait.length≤400:=by
 simp only [mayB,Bool.and_eq_true,decide_eq_true_eq] at h
 exact h.1.1.2
theorem putR_len (d:DiskV) (n:Int) (s:List UInt8):(putR d n s).1.safe.length≤d.safe.length∧(putR d n s).1.wait.length≤d.wait.length+1:=by
 unfold putR
 repeat' split
 all_goals simp -implicitDefEqProofs (maxSteps:=400000) (maxDischargeDepth:=6)
def FT4_h12:List AV→Option (Prop×AV):=t1 (fun d:DiskV=>d.safe.length<1000000∧d.wait.length<1000000) fun d:DiskV=>loadAV (loadR d)
@[simp] theorem FT4_ap12 {l:List AV}:FT4_h12 l=(t1 (fun d:DiskV=>d.safe.length<1000000∧d.wait.length<1000000) fun d:DiskV=>loadAV (loadR d)) l:=rfl
def FT4:CT:=(12,.pu FT4_h12)::FT3
theorem FT4_ok:CTok Tryz.prog FT4:=⟨tells1 fun d h=>load_ev d h.1 h.2,FT3_ok⟩
@[simp] theorem FT4_get12:ctGet FT4 12=some (.pu FT4_h12):=rfl
@[simp] theorem FT4_skip {n:Nat} (h:(n==12)=false):ctGet FT4 n=ctGet FT3 n:=by
 simp only [Bool.or_eq_false_iff,beq_eq_false_iff_ne,ne_eq] at h
 simp [FT4,ctGet,h]
theorem append_ev (d:DiskV) (at_:Int) (e:EntryV) (h1:d.safe.length<1000000) (h2:d.wait.length<1000000) (h3:e.op.text.length<1000000) (h4:e.op.gone.length<1000000) (hat:at_<9223372036854775808) :
  PEv Tryz.prog 8 [Arg.enc d,.c (.raw (.int .i64 at_)),Arg.enc e] (appendAV (appendR d at_ e)):=by
 refine tells_of mixed FT4_ok Tryz.func8 sl8 ok8 (by kernel_rfl) (by simp -implicitDefEqProofs (maxSteps:=400000) (maxDischargeDepth:=6) [appendAV,diskNw]) (by simp -implicitDefEqProofs (maxSteps:=400000) (maxDischargeDepth:=6) [entRow,opRow]) ?_
 have ho:okO e.op:=⟨by omega,by omega⟩
 cases hm:mayB d
 ·have er:appendR d at_ e=(noD,0,1):=by simp -implicitDefEqProofs (maxSteps:=400000) (maxDischargeDepth:=6) [appendR,hm]
  simp -implicitDefEqProofs (maxSteps:=400000) (maxDischargeDepth:=6) [s8,entRow,opRow,h1,h2,hm,er,appendAV,noD,diskNw]
 cases he:entMayB e
 ·have er:appendR d at_ e=(noD,0,1):=by simp -implicitDefEqProofs (maxSteps:=400000) (maxDischargeDepth:=6) [appendR,he]
  simp -implicitDefEqProofs (maxSteps:=400000) (maxDischargeDepth:=6) [s8,entRow,opRow,h1,h2,hm,ho,he,er,appendAV,noD,diskNw]
 by_cases ha:at_<0
 ·have er:appendR d at_ e=(noD,0,1):=by rw [appendR,if_neg (by omega)]
  simp -implicitDefEqProofs (maxSteps:=400000) (maxDischargeDepth:=6) [s8,entRow,opRow,h1,h2,hm,ho,he,ha,er,appendAV,noD,diskNw]
 have hof:=entMayB_ok he h3 h4
 have er1:appendR d at_ e=if (framedR e).2=0 then
   if (((framedR e).1.length/32:Nat):Int)>(d.safe.length:Int)-min at_ (d.safe.length:Int) then (noD,0,6)
   else if (appF (framedR e).1 at_ ((framedR e).1.length/32) 0 d).2=0 then ((appF (framedR e).1 at_ ((framedR e).1.length/32) 0 d).1,at_+((framedR e).1.length/32:Nat),0)
   else (noD,0,(appF (framedR e).1 at_ ((framedR e).1.length/32) 0 d).2)
  else (noD,0,(framedR e).2):=by rw [appendR,if_pos ⟨hm,he,by omega⟩]
 have hfk:=@framedR_ok e
 have e4:framedAV e=.t [(false,[.str (framedR e).1]),(false,[.raw (.int .i64 (framedR e).2)])]:=rfl
 rcases hf:framedR e with ⟨b,c⟩
 rw [hf] at er1 hfk e4
 simp only at er1 hfk e4
 by_cases hc:c=0
 rotate_left
 ·rw [if_neg hc] at er1
  simp -implicitDefEqProofs (maxSteps:=400000) (maxDischargeDepth:=6) [s8,entRow,opRow,h1,h2,hm,ho,he,ha,hof,e4,hc,er1,appendAV,noD,diskNw]
 subst hc
 obtain ⟨k1,k2,k3⟩:=hfk rfl
 rw [if_pos rfl] at er1
 have e5:(b.length:Int).tdiv 32=((b.length/32:Nat):Int):=rfl
 obtain ⟨n,hn⟩:∃n,n=b.length/32:=⟨_,rfl⟩
 rw [←hn] at er1 k1 k2 k3 e5
 have e6:IntKind.wrap .i64 (n:Int)=n:=by rw [wrap64_id]<;>omega
 have e7:(if (d.safe.length:Int)<at_ then (d.safe.length:Int) else at_)=min at_ (d.safe.length:Int):=by omega
 have e8:IntKind.wrap .i64 ((d.safe.length:Int)-min at_ (d.safe.length:Int))=(d.safe.length:Int)-min at_ (d.safe.length:Int):=by rw [wrap64_id]<;>omega
 obtain ⟨z,hz⟩:∃z,z=(d.safe.length:Int)-min at_ (d.safe.length:Int):=⟨_,rfl⟩
 rw [←hz] at er1 e8
 by_cases hn2:z<n
 ·rw [if_pos (by omega)] at er1
  simp -implicitDefEqProofs (maxSteps:=400000) (maxDischargeDepth:=6) [s8,entRow,opRow,h1,h2,hm,ho,he,ha,hof,e4,e5,e6,e7,e8,←hz,hn2,er1,appendAV,noD,diskNw]
 rw [if_neg (by omega)] at er1
 have hat2:at_+n≤d.safe.length:=by omega
 simp -implicitDefEqProofs (maxSteps:=400000) (maxDischargeDepth:=6) [s8,entRow,opRow,h1,h2,hm,ho,he,ha,hof,e4,e5,e6,e7,e8,←hz,hn2,appendAV,noD,diskNw]
 obtain ⟨R,hR⟩:∃R,R=appF b at_ n 0 d:=⟨_,rfl⟩
 rw [←hR] at er1
 have hw400:=mayB_wait hm
 refine loop_n (fun q st=>∃(i:Nat) (D:DiskV),i≤n∧q=n-i∧st.s 1=.c (.raw (.int .i64 at_))∧st.s 3=.c (.pt (0,3) 0 0)∧st.s 6=.c (.pt (0,6) 0 0)∧st.s 9=.c (.str b)∧st.s 10=.c (.raw (.int .i64 n))∧st.s 49=.c (.raw (.int .i64 n))∧st.s 50=.c (.raw (.int .i64 i))∧
  st.H (0,6)=.arr 30 2 false [[.raw (.slice none 0 0),.raw (.slice none 0 0)]]∧appF b at_ (n-i) i D=R∧D.safe.length≤d.safe.length∧D.wait.length≤d.wait.length+i∧
  ((i=0∧st.H (0,3)=.arr 30 2 false [[.sl .brw false (rowsE D.safe),.sl .brw false (rowsE D.wait)]])∨
   ∃j1 j2,j1≠j2∧st.H (0,3)=.arr 30 2 false [[.so j1 0 D.safe.length,.so j2 0 D.wait.length]]∧st.H j1=.arr 9 1 false (rowsE D.safe)∧st.H j2=.arr 88 2 false (rowsE D.wait))∧0<st.T∧Fresh st.H st.T) n ?_ ?_
 ·refine ⟨0,d,by omega,by omega,?_⟩
  simp -implicitDefEqProofs (maxSteps:=400000) (maxDischargeDepth:=6) [hR]
  (repeat' (first|exact fresh_no.mono (Nat.zero_le _)|(refine Fresh.set' ?_ (by simp))))
 rintro q st ⟨i,D,hi,rfl,q1,q3,q6,q9,q10,q49,q50,hH6,hap,hs,hwt,hD,hT,hfr⟩
 have hfu:∀k d,st.T≤k→st.H (k,d)=.unborn:=hfr
 by_cases hlt:i<n
 ·have hlt':(i:Int)<n:=by omega
  have w1:IntKind.wrap .i64 (at_+i)=at_+i:=by rw [wrap64_id]<;>omega
  have w2:IntKind.wrap .i64 ((i:Int)*32)=((32*i:Nat):Int):=by rw [wrap64_id]<;>omega
  have w3:IntKind.wrap .i64 ((i:Int)+1)=((i+1:Nat):Int):=by rw [wrap64_id]<;>omega
  have w4:IntKind.wrap .i64 (((i:Int)+1)*32)=((32*i+32:Nat):Int):=by rw [wrap64_id]<;>omega
  obtain ⟨lo,hlo⟩:∃x,x=32*i:=⟨_,rfl⟩
  obtain ⟨hi2,hhi⟩:∃x,x=32*i+32:=⟨_,rfl⟩
  rw [←hlo] at w2
  rw [←hhi] at w4
  have w5:lo≤hi2:=by omega
  have w6:hi2≤b.length:=by omega
  have b1:D.safe.length<1000000:=by omega
  have b2:D.wait.length<1000000:=by omega
  obtain ⟨l1,l2⟩:=putR_len D (at_+i) (sect b i)
  rw [show n-i=(n-(i+1))+1 by omega,appF] at hap
  have hsec:(b.take hi2).drop lo=sect b i:=by
   rw [sect,List.drop_take,←hlo,hhi,hlo]
   congr 1
   omega
  obtain ⟨Ds,Dw⟩:=D
  rcases hp:putR ⟨Ds,Dw⟩ (at_+i) (sect b i) with ⟨D2,c⟩
  have hfu4:∀d,st.H (st.T+1+1,d)=.unborn:=fun d=>hfr _ _ (by omega)
  simp only at b1 b2 hs hwt hD
  rw [hp] at hap l1 l2
  simp only at hap l1 l2
  by_cases hc:c=0
  ·rw [if_pos hc] at hap
   subst hc
   rcases hD with ⟨h0,hH3⟩|⟨j1,j2,hjj,hH3,hj1,hj2⟩
   ·simp -implicitDefEqProofs (maxSteps:=400000) (maxDischargeDepth:=6) [s8L0,q1,q3,q6,q9,q10,q49,q50,hH6,hH3,hlt',w1,w2,w3,w4,w5,w6,b1,b2,hsec,hp,diskE,diskNw,hfu,hfu4]
    refine ⟨n-(i+1),by omega,i+1,by omega,rfl,rfl,D2,hap,by omega,by omega,⟨_,_,_,_,?_,⟨⟨⟨rfl,rfl⟩,rfl⟩,⟨rfl,rfl⟩,rfl⟩,?_,?_⟩,?_⟩
    ·simp -implicitDefEqProofs (maxSteps:=400000) (maxDischargeDepth:=6)
    ·simp -implicitDefEqProofs (maxSteps:=400000) (maxDischargeDepth:=6)
    ·simp -implicitDefEqProofs (maxSteps:=400000) (maxDischargeDepth:=6)
    ·have hf:=hfr
     repeat' (first|exact hf.mono (by first|omega|(simp<;>omega))|(refine Fresh.set' ?_ (by first|omega|(simp<;>omega))))
   ·simp -implicitDefEqProofs (maxSteps:=400000) (maxDischargeDepth:=6) [s8L0,q1,q3,q6,q9,q10,q49,q50,hH6,hH3,hj1,hj2,hlt',w1,w2,w3,w4,w5,w6,b1,b2,hsec,hp,diskE,diskNw,hfu,hfu4]
    refine ⟨n-(i+1),by omega,i+1,by omega,rfl,rfl,D2,hap,by omega,by omega,⟨_,_,_,_,?_,⟨⟨⟨rfl,rfl⟩,rfl⟩,⟨rfl,rfl⟩,rfl⟩,?_,?_⟩,?_⟩
    ·simp -implicitDefEqProofs (maxSteps:=400000) (maxDischargeDepth:=6)
    ·simp -implicitDefEqProofs (maxSteps:=400000) (maxDischargeDepth:=6)
    ·simp -implicitDefEqProofs (maxSteps:=400000) (maxDischargeDepth:=6)
    ·have hf:=hfr
     repeat' (first|exact hf.mono (by first|omega|(simp<;>omega))|(refine Fresh.set' ?_ (by first|omega|(simp<;>omega))))
  ·rw [if_neg hc] at hap
   have er2:appendR d at_ e=(noD,0,c):=by rw [er1,←hap,if_neg hc]
   rcases hD with ⟨h0,hH3⟩|⟨j1,j2,hjj,hH3,hj1,hj2⟩
   ·simp -implicitDefEqProofs (maxSteps:=400000) (maxDischargeDepth:=6) [s8L0,q1,q3,q6,q9,q10,q49,q50,hH6,hH3,hlt',w1,w2,w3,w4,w5,w6,b1,b2,hsec,hp,diskE,diskNw,hfu,hfu4,hc,er2,noD]
   ·simp -implicitDefEqProofs (maxSteps:=400000) (maxDischargeDepth:=6) [s8L0,q1,q3,q6,q9,q10,q49,q50,hH6,hH3,hj1,hj2,hlt',w1,w2,w3,w4,w5,w6,b1,b2,hsec,hp,diskE,diskNw,hfu,hfu4,hc,er2,noD]
 ·have:i=n:=by omega
  subst this
  rw [Nat.sub_self,appF] at hap
  have w1:IntKind.wrap .i64 (at_+i)=at_+i:=by rw [wrap64_id]<;>omega
  have er2:appendR d at_ e=(D,at_+i,0):=by rw [er1,←hap,if_pos rfl]
  rcases hD with ⟨h0,hH3⟩|⟨j1,j2,hjj,hH3,hj1,hj2⟩
  ·omega
  ·simp -implicitDefEqProofs (maxSteps:=400000) (maxDischargeDepth:=6) [s8L0,q1,q3,q6,q9,q10,q49,q50,hH6,hH3,hj1,hj2,w1,er2]
   refine ⟨⟨?_,?_⟩,hjj⟩
   ·rintro rfl
    rw [hH6] at hj1
    simp -implicitDefEqProofs (maxSteps:=400000) (maxDischargeDepth:=6) at hj1
   ·rintro rfl
    rw [hH6] at hj2
    simp -implicitDefEqProofs (maxSteps:=400000) (maxDischargeDepth:=6) at hj2
end Go.AE
set_option linter.unusedVariables false
set_option linter.unusedSimpArgs false
set_option maxHeartbeats 4000000
set_option maxRecDepth 100000
namespace Go.AE
open Go Go.Proofs
def FT5_h43:List AV→Option (Prop×AV):=t0 (.c (.str blank))
@[simp] theorem FT5_ap43 {l:List AV}:FT5_h43 l=(t0 (.c (.str blank))) l:=rfl
def FT5:CT:=(43,.pu FT5_h43)::FT4
theorem FT5_ok:CTok Tryz.prog FT5:=⟨tells0 blank37_ev,FT4_ok⟩
@[simp] theorem FT5_get43:ctGet FT5 43=some (.pu FT5_h43):=rfl
@[simp] theorem FT5_skip {n:Nat} (h:(n==43)=false):ctGet FT5 n=ctGet FT4 n:=by
 simp only [Bool.or_eq_false_iff,beq_eq_false_iff_ne,ne_eq] at h
 simp [FT5,ctGet,h]
def cleanF (at_:Int):List (List UInt8)→Nat→DiskV→DiskV×Int
 |[],_,d=>(d,0)
 |s::l,i,d=>if (i:Int)<at_∨s=blank then cleanF at_ l (i+1) d
  else if (putR d i blank).2=0 then cleanF at_ l (i+1) (putR d i blank).1 else (noD,(putR d i blank).2)
def cleanR (d:DiskV) (at_:Int):DiskV×Int:=
 if mayB d=true∧0≤at_ then (if (cleanF at_ d.safe 0 d).2=0 then syncR (cleanF at_ d.safe 0 d).1 else (noD,(cleanF at_ d.safe 0 d).2)) else (noD,1)
theorem clean_ev (d:DiskV) (at_:Int) (h1:d.safe.length<1000000) (h2:d.wait.length<1000000) :
  PEv Tryz.prog 14 [Arg.enc d,.c (.raw (.int .i64 at_))] (diskE (cleanR d at_)):=by
 refine tells_of mixed FT5_ok Tryz.func14 sl14 ok14 (by kernel_rfl) (by simp -implicitDefEqProofs (maxSteps:=400000) (maxDischargeDepth:=6) [diskE,diskNw]) (by simp -implicitDefEqProofs (maxSteps:=400000) (maxDischargeDepth:=6)) ?_
 cases hm:mayB d
 ·have er:cleanR d at_=(noD,1):=by simp -implicitDefEqProofs (maxSteps:=400000) (maxDischargeDepth:=6) [cleanR,hm]
  simp -implicitDefEqProofs (maxSteps:=400000) (maxDischargeDepth:=6) [s14,h1,h2,hm,er,diskE,noD,diskNw]
 by_cases ha:at_<0
 ·have er:cleanR d at_=(noD,1):=by rw [cleanR,if_neg (by omega)]
  simp -implicitDefEqProofs (maxSteps:=400000) (maxDischargeDepth:=6) [s14,h1,h2,hm,ha,er,diskE,noD,diskNw]
 obtain ⟨R,hR⟩:∃R,R=cleanF at_ d.safe 0 d:=⟨_,rfl⟩
 have er1:cleanR d at_=if R.2=0 then syncR R.1 else (noD,R.2):=by rw [cleanR,if_pos ⟨hm,by omega⟩,hR]
 have hw400:=mayB_wait hm
 obtain ⟨_,_,hl400⟩:=mayB_secs hm
 simp -implicitDefEqProofs (maxSteps:=400000) (maxDischargeDepth:=6) [s14,h1,h2,hm,ha,diskE,diskNw]
 refine loop_n (fun q st=>∃(i:Nat) (D:DiskV),i≤d.safe.length∧q=d.safe.length-i∧st.s 1=.c (.raw (.int .i64 at_))∧st.s 2=.c (.pt (0,2) 0 0)∧st.s 4=.c (.pt (0,4) 0 0)∧st.s 18=.c (.sl .brw false (rowsE d.safe))∧st.s 19=.c (.raw (.int .i64 d.safe.length))∧st.s 20=.c (.raw (.int .i64 i))∧
  st.H (0,4)=.arr 30 2 false [[.raw (.slice none 0 0),.raw (.slice none 0 0)]]∧cleanF at_ (d.safe.drop i) i D=R∧D.safe.length≤d.safe.length∧D.wait.length≤d.wait.length+i∧
  (st.H (0,2)=.arr 30 2 false [[.sl .brw false (rowsE D.safe),.sl .brw false (rowsE D.wait)]]∨
   ∃j1 j2,j1≠j2∧st.H (0,2)=.arr 30 2 false [[.so j1 0 D.safe.length,.so j2 0 D.wait.length]]∧st.H j1=.arr 9 1 false (rowsE D.safe)∧st.H j2=.arr 88 2 false (rowsE D.wait))∧0<st.T∧Fresh st.H st.T) d.safe.length ?_ ?_
 ·refine ⟨0,d,by omega,by omega,?_⟩
  simp -implicitDefEqProofs (maxSteps:=400000) (maxDischargeDepth:=6) [hR]
  (repeat' (first|exact fresh_no.mono (Nat.zero_le _)|(refine Fresh.set' ?_ (by simp))))
 rintro q st ⟨i,D,hi,rfl,q1,q2,q4,q18,q19,q20,hH4,hap,hs,hwt,hD,hT,hfr⟩
 have hfu:∀k d,st.T≤k→st.H (k,d)=.unborn:=hfr
 have hfu4:∀d,st.H (st.T+1+1+1+1,d)=.unborn:=fun d=>hfr _ _ (by omega)
 obtain ⟨Ds,Dw⟩:=D
 simp only at hs hwt hD
 have b1:Ds.length<1000000:=by omega
 have b2:Dw.length<1000000:=by omega
 by_cases hlt:i<d.safe.length
 ·have hlt':(i:Int)<d.safe.length:=by omega
  have w3:IntKind.wrap .i64 ((i:Int)+1)=((i+1:Nat):Int):=by rw [wrap64_id]<;>omega
  rw [List.drop_eq_getElem_cons hlt,cleanF] at hap
  by_cases c1:(i:Int)<at_
  ·rw [if_pos (Or.inl c1)] at hap
   simp -implicitDefEqProofs (maxSteps:=400000) (maxDischargeDepth:=6) [s14L0,q1,q2,q4,q18,q19,q20,hH4,hlt,hlt',c1,w3]
   exact ⟨d.safe.length-(i+1),by omega,i+1,by omega,rfl,by simp -implicitDefEqProofs (maxSteps:=400000) (maxDischargeDepth:=6),⟨Ds,Dw⟩,hap,hs,by simp only;omega,by simpa using hD,by first|exact hfr|exact hfr.mono (by omega)⟩
  cases c2:decide (d.safe[i]=blank)
  rotate_left
  ·rw [if_pos (Or.inr (of_decide_eq_true c2))] at hap
   simp -implicitDefEqProofs (maxSteps:=400000) (maxDischargeDepth:=6) [s14L0,q1,q2,q4,q18,q19,q20,hH4,hlt,hlt',c1,c2,w3]
   exact ⟨d.safe.length-(i+1),by omega,i+1,by omega,rfl,by simp -implicitDefEqProofs (maxSteps:=400000) (maxDischargeDepth:=6),⟨Ds,Dw⟩,hap,hs,by simp only;omega,by simpa using hD,by first|exact hfr|exact hfr.mono (by omega)⟩
  ·rw [if_neg (by have:=of_decide_eq_false c2;simp -implicitDefEqProofs (maxSteps:=400000) (maxDischargeDepth:=6) [c1,this])] at hap
   obtain ⟨l1,l2⟩:=putR_len ⟨Ds,Dw⟩ i blank
   rcases hp:putR ⟨Ds,Dw⟩ i blank with ⟨D2,c⟩
   rw [hp] at hap l1 l2
   simp only at hap l1 l2
   by_cases hc:c=0
   ·rw [if_pos hc] at hap
    subst hc
    rcases hD with hH3|⟨j1,j2,hjj,hH3,hj1,hj2⟩
    ·simp -implicitDefEqProofs (maxSteps:=400000) (maxDischargeDepth:=6) [s14L0,q1,q2,q4,q18,q19,q20,hH4,hlt,hlt',c1,c2,w3,hH3,b1,b2,hp,diskE,diskNw,hfu,hfu4]
     refine ⟨d.safe.length-(i+1),by omega,i+1,by omega,rfl,by simp -implicitDefEqProofs (maxSteps:=400000) (maxDischargeDepth:=6),D2,hap,by omega,by omega,⟨_,_,_,_,?_,⟨⟨⟨rfl,rfl⟩,rfl⟩,⟨rfl,rfl⟩,rfl⟩,?_,?_⟩,?_⟩
     ·simp -implicitDefEqProofs (maxSteps:=400000) (maxDischargeDepth:=6)
     ·simp -implicitDefEqProofs (maxSteps:=400000) (maxDischargeDepth:=6)
     ·simp -implicitDefEqProofs (maxSteps:=400000) (maxDischargeDepth:=6)
     ·have hf:=hfr
      repeat' (first|exact hf.mono (by first|omega|(simp<;>omega))|(refine Fresh.set' ?_ (by first|omega|(simp<;>omega))))
    ·simp -implicitDefEqProofs (maxSteps:=400000) (maxDischargeDepth:=6) [s14L0,q1,q2,q4,q18,q19,q20,hH4,hlt,hlt',c1,c2,w3,hH3,hj1,hj2,b1,b2,hp,diskE,diskNw,hfu,hfu4]
     refine ⟨d.safe.length-(i+1),by omega,i+1,by omega,rfl,by simp -implicitDefEqProofs (maxSteps:=400000) (maxDischargeDepth:=6),D2,hap,by omega,by omega,⟨_,_,_,_,?_,⟨⟨⟨rfl,rfl⟩,rfl⟩,⟨rfl,rfl⟩,rfl⟩,?_,?_⟩,?_⟩
     ·simp -implicitDefEqProofs (maxSteps:=400000) (maxDischargeDepth:=6)
     ·simp -implicitDefEqProofs (maxSteps:=400000) (maxDischargeDepth:=6)
     ·simp -implicitDefEqProofs (maxSteps:=400000) (maxDischargeDepth:=6)
     ·have hf:=hfr
      repeat' (first|exact hf.mono (by first|omega|(simp<;>omega))|(refine Fresh.set' ?_ (by first|omega|(simp<;>omega))))
   ·rw [if_neg hc] at hap
    have er2:cleanR d at_=(noD,c):=by rw [er1,←hap,if_neg hc]
    rcases hD with hH3|⟨j1,j2,hjj,hH3,hj1,hj2⟩
    ·simp -implicitDefEqProofs (maxSteps:=400000) (maxDischargeDepth:=6) [s14L0,q1,q2,q4,q18,q19,q20,hH4,hlt,hlt',c1,c2,w3,hH3,b1,b2,hp,diskE,diskNw,hfu,hfu4,hc,er2,noD]
    ·simp -implicitDefEqProofs (maxSteps:=400000) (maxDischargeDepth:=6) [s14L0,q1,q2,q4,q18,q19,q20,hH4,hlt,hlt',c1,c2,w3,hH3,hj1,hj2,b1,b2,hp,diskE,diskNw,hfu,hfu4,hc,er2,noD]
 ·have:i=d.safe.length:=by omega
  subst this
  rw [List.drop_length,cleanF] at hap
  have er2:cleanR d at_=syncR ⟨Ds,Dw⟩:=by rw [er1,←hap,if_pos rfl]
  rcases hD with hH3|⟨j1,j2,hjj,hH3,hj1,hj2⟩
  ·simp -implicitDefEqProofs (maxSteps:=400000) (maxDischargeDepth:=6) [s14L0,q1,q2,q4,q18,q19,q20,hH4,hH3,b1,b2,er2,diskE,diskNw,hfu,hfu4]
  ·simp -implicitDefEqProofs (maxSteps:=400000) (maxDischargeDepth:=6) [s14L0,q1,q2,q4,q18,q19,q20,hH4,hH3,hj1,hj2,b1,b2,er2,diskE,diskNw,hfu,hfu4]
end Go.AE
set_option linter.unusedVariables false
set_option linter.unusedSimpArgs false
set_option maxHeartbeats 4000000
set_option maxRecDepth 100000
namespace Go.AE
open Go Go.Proofs
def FE0_h87:List AV→Option (Prop×AV):=t2 (fun a _=>a.length<4611686018427387904) fun a b:List ElemV=>.c (.raw (.bool (decide (a=b))))
@[simp] theorem FE0_ap87 {l:List AV}:FE0_h87 l=(t2 (fun a _=>a.length<4611686018427387904) fun a b:List ElemV=>.c (.raw (.bool (decide (a=b))))) l:=rfl
def FE0:CT:=(87,.pu FE0_h87)::FT5
theorem FE0_ok:CTok Tryz.prog FE0:=⟨tells2 fun a b h=>eqElems_ev a b h,FT5_ok⟩
@[simp] theorem FE0_get87:ctGet FE0 87=some (.pu FE0_h87):=rfl
@[simp] theorem FE0_skip {n:Nat} (h:(n==87)=false):ctGet FE0 n=ctGet FT5 n:=by
 simp only [Bool.or_eq_false_iff,beq_eq_false_iff_ne,ne_eq] at h
 simp [FE0,ctGet,h]
theorem eqOp_ev (a b:OpV) (ha:a.gone.length<4611686018427387904):PEv Tryz.prog 52 [Arg.enc a,Arg.enc b] (.c (.raw (.bool (sameB a b)))):=by
 refine tells_of mixed FE0_ok Tryz.func52 sl52 ok52 (by kernel_rfl) (by simp -implicitDefEqProofs (maxSteps:=400000) (maxDischargeDepth:=6)) (by simp -implicitDefEqProofs (maxSteps:=400000) (maxDischargeDepth:=6) [opRow]) ?_
 have hz:=elemEq a.after b.after
 cases c2:decide (a.site=b.site)
 ·simp -implicitDefEqProofs (maxSteps:=400000) (maxDischargeDepth:=6) [s52,opRow,sameB,hz,c2,ha]
 cases c3:decide (a.seq=b.seq)
 ·simp -implicitDefEqProofs (maxSteps:=400000) (maxDischargeDepth:=6) [s52,opRow,sameB,hz,c2,c3,ha]
 cases c4:decide (a.kind=b.kind)
 ·simp -implicitDefEqProofs (maxSteps:=400000) (maxDischargeDepth:=6) [s52,opRow,sameB,hz,c2,c3,c4,ha]
 cases c5:decide (a.after=b.after)
 ·rw [c5] at hz
  simp -implicitDefEqProofs (maxSteps:=400000) (maxDischargeDepth:=6) [s52,opRow,sameB,hz,c2,c3,c4,c5,ha]
 rw [c5] at hz
 cases c6:decide (a.text=b.text)
 ·simp -implicitDefEqProofs (maxSteps:=400000) (maxDischargeDepth:=6) [s52,opRow,sameB,hz,c2,c3,c4,c5,c6,ha]
 cases c1:decide (a.gone=b.gone)
 ·simp -implicitDefEqProofs (maxSteps:=400000) (maxDischargeDepth:=6) [s52,opRow,sameB,hz,c1,c2,c3,c4,c5,c6,ha]
 cases c7:decide (a.of_=b.of_)
 ·simp -implicitDefEqProofs (maxSteps:=400000) (maxDischargeDepth:=6) [s52,opRow,sameB,hz,c1,c2,c3,c4,c5,c6,c7,ha]
 cases c8:decide (a.num=b.num)
 ·simp -implicitDefEqProofs (maxSteps:=400000) (maxDischargeDepth:=6) [s52,opRow,sameB,hz,c1,c2,c3,c4,c5,c6,c7,c8,ha]
 ·simp -implicitDefEqProofs (maxSteps:=400000) (maxDischargeDepth:=6) [s52,opRow,sameB,hz,c1,c2,c3,c4,c5,c6,c7,c8,ha]
def FE1_h52:List AV→Option (Prop×AV):=t2 (fun a _=>a.gone.length<4611686018427387904) fun a b:OpV=>.c (.raw (.bool (sameB a b)))
@[simp] theorem FE1_ap52 {l:List AV}:FE1_h52 l=(t2 (fun a _=>a.gone.length<4611686018427387904) fun a b:OpV=>.c (.raw (.bool (sameB a b)))) l:=rfl
def FE1:CT:=(52,.pu FE1_h52)::FE0
theorem FE1_ok:CTok Tryz.prog FE1:=⟨tells2 fun a b h=>eqOp_ev a b h,FE0_ok⟩
@[simp] theorem FE1_get52:ctGet FE1 52=some (.pu FE1_h52):=rfl
@[simp] theorem FE1_skip {n:Nat} (h:(n==52)=false):ctGet FE1 n=ctGet FE0 n:=by
 simp only [Bool.or_eq_false_iff,beq_eq_false_iff_ne,ne_eq] at h
 simp [FE1,ctGet,h]
def sameE (a b:EntryV):Bool:=(a.join==b.join)&&decide (a.nonce=b.nonce)&&sameB a.op b.op
theorem sameE_eq (a b:EntryV):sameE a b=decide (a=b):=by
 obtain ⟨a1,a2,a3⟩:=a
 obtain ⟨b1,b2,b3⟩:=b
 simp only [sameE,sameB_eq]
 rw [Bool.eq_iff_iff]
 simp only [Bool.and_eq_true,beq_iff_eq,decide_eq_true_eq,EntryV.mk.injEq,and_assoc]
theorem eqEntry_ev (a b:EntryV) (ha:a.op.gone.length<4611686018427387904):PEv Tryz.prog 21 [Arg.enc a,Arg.enc b] (.c (.raw (.bool (sameE a b)))):=by
 refine tells_of mixed FE1_ok Tryz.func21 sl21 ok21 (by kernel_rfl) (by simp -implicitDefEqProofs (maxSteps:=400000) (maxDischargeDepth:=6)) (by simp -implicitDefEqProofs (maxSteps:=400000) (maxDischargeDepth:=6) [entRow,opRow]) ?_
 cases c1:(a.join==b.join)
 ·simp -implicitDefEqProofs (maxSteps:=400000) (maxDischargeDepth:=6) [s21,entRow,opRow,sameE,c1,ha]
 cases c2:decide (a.nonce=b.nonce)
 ·simp -implicitDefEqProofs (maxSteps:=400000) (maxDischargeDepth:=6) [s21,entRow,opRow,sameE,c1,c2,ha]
 ·simp -implicitDefEqProofs (maxSteps:=400000) (maxDischargeDepth:=6) [s21,entRow,opRow,sameE,c1,c2,ha]
def FE2_h21:List AV→Option (Prop×AV):=t2 (fun a _=>a.op.gone.length<4611686018427387904) fun a b:EntryV=>.c (.raw (.bool (sameE a b)))
@[simp] theorem FE2_ap21 {l:List AV}:FE2_h21 l=(t2 (fun a _=>a.op.gone.length<4611686018427387904) fun a b:EntryV=>.c (.raw (.bool (sameE a b)))) l:=rfl
def FE2:CT:=(21,.pu FE2_h21)::FE1
theorem FE2_ok:CTok Tryz.prog FE2:=⟨tells2 fun a b h=>eqEntry_ev a b h,FE1_ok⟩
@[simp] theorem FE2_get21:ctGet FE2 21=some (.pu FE2_h21):=rfl
@[simp] theorem FE2_skip {n:Nat} (h:(n==21)=false):ctGet FE2 n=ctGet FE1 n:=by
 simp only [Bool.or_eq_false_iff,beq_eq_false_iff_ne,ne_eq] at h
 simp [FE2,ctGet,h]
def okL (l:List EntryV):Prop:=∀e∈l,e.op.gone.length<4611686018427387904
theorem eqEntries_ev (a b:List EntryV) (ha:a.length<4611686018427387904) (hg:okL a):PEv Tryz.prog 13 [Arg.enc a,Arg.enc b] (.c (.raw (.bool (decide (a=b))))):=by
 refine tells_of mixed FE2_ok Tryz.func13 sl13 ok13 (by kernel_rfl) (by simp -implicitDefEqProofs (maxSteps:=400000) (maxDischargeDepth:=6)) (by simp -implicitDefEqProofs (maxSteps:=400000) (maxDischargeDepth:=6)) ?_
 simp -implicitDefEqProofs (maxSteps:=400000) (maxDischargeDepth:=6) [s13]
 refine ⟨fun h e=>h (by rw [e]),fun hl=>?_⟩
 have hl:a.length=b.length:=by omega
 refine loop_n (fun n st=>∃i:Nat,i≤a.length∧n=a.length-i∧st.s 0=.c (.sl .brw false (rowsE a))∧st.s 1=.c (.sl .brw false (rowsE b))∧st.s 5=.c (.raw (.int .i64 i))∧a.take i=b.take i) a.length ⟨0,by simp -implicitDefEqProofs (maxSteps:=400000) (maxDischargeDepth:=6)⟩ ?_
 rintro n st ⟨i,hi,rfl,h0,h1,h5,hp⟩
 by_cases hlt:i<a.length
 ·have hb:i<b.length:=by omega
  have hgi:a[i].op.gone.length<4611686018427387904:=hg _ (List.getElem_mem hlt)
  have hw:IntKind.wrap .i64 ((i:Int)+1)=((i+1:Nat):Int):=by rw [wrap64_id]<;>omega
  cases c:sameE a[i] b[i]
  ·simp -implicitDefEqProofs (maxSteps:=400000) (maxDischargeDepth:=6) [s13L0,h0,h1,h5,hlt,hb,entRow,opRow,c,hgi]
   rintro rfl
   rw [sameE_eq] at c
   simp -implicitDefEqProofs (maxSteps:=400000) (maxDischargeDepth:=6) at c
  ·simp -implicitDefEqProofs (maxSteps:=400000) (maxDischargeDepth:=6) [s13L0,h0,h1,h5,hlt,hb,entRow,opRow,c,hgi,hw]
   exact ⟨a.length-(i+1),by omega,i+1,by omega,rfl,by simp -implicitDefEqProofs (maxSteps:=400000) (maxDischargeDepth:=6),eq_step hp hlt hb (by rw [sameE_eq] at c;exact of_decide_eq_true c)⟩
 ·have:i=a.length:=by omega
  subst this
  simp -implicitDefEqProofs (maxSteps:=400000) (maxDischargeDepth:=6) [s13L0,h0,h1,h5]
  rw [List.take_length,hl,List.take_length] at hp
  exact hp
end Go.AE
set_option linter.unusedVariables false
set_option linter.unusedSimpArgs false
namespace Go.AE
open Go
variable {P:Program}
theorem so_frz' {C:Ctx P} {H H2:Heap} {ρ:Lies} {w:World} {id:Id} {v:Value} {e sz:Nat} {xs:List (List AC)} (hH:RelH C H ρ w) (h:RelC w (Fr C H ρ) H ρ (.so id 0 xs.length) v) (hid:H id=.arr e sz false xs)
  (hr:∀r∈xs,∀c∈r,RetOK c) (hF:∀t b,Fr C H ρ t b→Fr C H2 ρ t b) (hnm:∀b c s,ρ id=some (b,c,s)→¬Mut H2 ρ b):RelC w (Fr C H2 ρ) H2 ρ (.sl .old false xs) v:=by
 have hrows:rowsOf H (.so id 0 xs.length)=some xs:=by simp [rowsOf,hid]
 have hin:∀c u,RetOK c→RelC w (Fr C H ρ) H ρ c u→RelC w (Fr C H2 ρ) H2 ρ c u:=fun c u hc hu=>hu.noid hc fun t b _ hb=>hF t b hb
 have hs:SoVal ρ id 0 xs.length v:=by
  cases h with
  |so _ _ _ _ hk hs=>exact hs (by rw [hid];rfl)
 unfold SoVal at hs
 rcases (hH.row id e sz false xs hid).lies with ⟨q1,q2⟩|⟨b',cap',cur,q1,q0,q3,_⟩
 ·rw [q1] at hs;subst q2;exact .slNil _ _ _ hs.2.2
 ·have hnm':=hnm b' cap' sz q1
  rw [q1] at hs
  obtain ⟨o'',he,_⟩:=hs
  have hb:b'<w.heap.size:=q3.lt
  rcases rows_rel hH h hrows with ⟨hn,rfl⟩|⟨b,o',cap,sz',rfl,g1,g2,g3⟩
  ·exact .slNil _ _ _ hn
  ·cases he
   obtain ⟨news,n1,n2,n3,n4⟩:=app_vals g1 g3
   have hbl:∀k,k<xs.length*sz'→∃u,w.cell? ⟨b',o''+k,none⟩=some u∧news[k]?=some u:=fun k hk=>by
    have:k<news.length:=by omega
    have h1:=n2 k news[k] (List.getElem?_eq_getElem this)
    rw [Addr.add_lit] at h1
    exact ⟨_,h1,List.getElem?_eq_getElem this⟩
   refine .sl _ _ xs b' o'' _ sz' (fun k=>news.getD k undef) hb ⟨.inl q0,hnm'⟩ g2 (fun e=>by cases e) (fun i r hi=>g1 r (List.mem_of_getElem? hi)) (fun k hk=>?_) (fun k hk=>?_) (fun i j r c hi hj=>?_)
   ·obtain ⟨u,u1,u2⟩:=hbl k hk
    rw [u1];simp [List.getD,u2]
   ·obtain ⟨u,u1,u2⟩:=hbl k hk
    have:news.getD k undef=u:=by simp [List.getD,u2]
    rw [this];exact n3 u (List.mem_of_getElem? u2)
   ·obtain ⟨u,u1,u2,u3⟩:=n4 i j r c hi hj
    have:news.getD (i*sz'+j) undef=u:=by simp [List.getD,u1]
    rw [this]
    exact hin _ _ (hr r (List.mem_of_getElem? hi) c (List.mem_of_getElem? hj)) u3
def frz1 (H:Heap) (id o:Id) (e2 sz2:Nat) (rows xs:List (List AC)) (k j:Nat) (r:List AC):Heap:=
 hset (hset H id .dead) o (.arr e2 sz2 false (rows.set k (r.set j (.sl .old false xs))))
theorem frz1_rel {C:Ctx P} {H:Heap} {ρ:Lies} {w:World} {id o:Id} {e sz e2 sz2:Nat} {xs rows:List (List AC)} {k j:Nat} {r:List AC} (hH:RelH C H ρ w) (hid:H id=.arr e sz false xs)
  (hx:∀r∈xs,∀c∈r,RetOK c) (ho:H o=.arr e2 sz2 false rows) (hne:o≠id) (hr:rows[k]?=some r) (hj:r[j]?=some (.so id 0 xs.length)) :
  RelH C (frz1 H id o e2 sz2 rows xs k j r) ρ w∧Keeps w w (Fr C H ρ) (Fr C (frz1 H id o e2 sz2 rows xs k j r) ρ) H (frz1 H id o e2 sz2 rows xs k j r) ρ ρ:=by
 generalize hH2:frz1 H id o e2 sz2 rows xs k j r=H2
 have g0:∀i,H2 i=if i=o then .arr e2 sz2 false (rows.set k (r.set j (.sl .old false xs))) else if i=id then .dead else H i:=fun i=>by
  rw [←hH2];rfl
 have gun:∀i,H2 i=.unborn↔H i=.unborn:=fun i=>by
  rw [g0]
  split
  ·rename_i h;subst h;rw [ho];simp
  ·split
   ·rename_i h;subst h;rw [hid];simp
   ·exact Iff.rfl
 have garr:∀{i e' sz' f' rs},H2 i=.arr e' sz' f' rs→∃rs0,H i=.arr e' sz' f' rs0∧i≠id∧rs0.length=rs.length:=fun {i e' sz' f' rs} h=>by
  rw [g0] at h
  split at h
  ·rename_i hi
   subst hi
   cases h
   exact ⟨rows,ho,hne,by simp⟩
  ·split at h
   ·cases h
   ·rename_i hi
    exact ⟨rs,h,hi,rfl⟩
 have hmut:∀b,Mut H2 ρ b→Mut H ρ b:=fun b ⟨i,e',sz',rs,cap,s,h1,h2⟩=>by
  obtain ⟨rs0,h3,_,_⟩:=garr h1
  exact ⟨i,e',sz',rs0,cap,s,h3,h2⟩
 have hF:∀t b,Fr C H ρ t b→Fr C H2 ρ t b:=fun t b h=>⟨h.1,fun q=>h.2 (hmut b q)⟩
 have hk:Keeps w w (Fr C H ρ) (Fr C H2 ρ) H H2 ρ ρ:=by
  refine ⟨Nat.le_refl _,fun t b h _=>⟨hF t b h,rfl⟩,fun i hi=>⟨fun q=>hi ((gun i).1 q),fun hl=>⟨?_,rfl⟩⟩⟩
  cases h2:H2 i with
  |arr e' sz' f' rs=>
   obtain ⟨rs0,h3,_,_⟩:=garr h2
   rw [h3];rfl
  |_=>rw [h2] at hl;cases hl
 have hnm:∀b c s,ρ id=some (b,c,s)→¬Mut H2 ρ b:=fun b c s hρ ⟨i,e',sz',rs,cap,s',h1,h2⟩=>by
  obtain ⟨rs0,h3,h4,_⟩:=garr h1
  exact h4 (hH.inj i id e' sz' rs0 e sz false xs b cap s' c s h3 hid h2 hρ)
 refine ⟨⟨hH.below,fun i e' sz' f' rs hi=>?_,fun i i' e' sz' rs e'' sz'' f'' rs' b c s c' s' h1 h2=>?_,?_⟩,hk⟩
 ·by_cases hio:i=o
  ·subst hio
   rw [g0,if_pos rfl] at hi
   cases hi
   have hrow:=hH.row i e2 sz2 false rows ho
   refine ⟨fun q r' hq=>?_,?_⟩
   ·rw [List.getElem?_set] at hq
    split at hq
    ·split at hq
     ·cases hq
      rw [List.length_set]
      exact hrow.rowlen k r hr
     ·cases hq
    ·exact hrow.rowlen q r' hq
   ·rcases hrow.lies with ⟨l1,l2⟩|⟨b,cap,cur,l1,l2,l3,l4,l5,l6,l7⟩
    ·subst l2;simp at hr
    ·refine .inr ⟨b,cap,cur,l1,l2,l3,by simpa using l4,l5,l6,fun q q' r' c hq hq'=>?_⟩
     rw [List.getElem?_set] at hq
     split at hq
     ·rename_i hkq
      subst hkq
      split at hq
      ·cases hq
       rw [List.getElem?_set] at hq'
       split at hq'
       ·rename_i hjq
        subst hjq
        split at hq'
        ·cases hq'
         obtain ⟨v,v1,v2,v3⟩:=l7 k j r _ hr hj
         exact ⟨v,v1,v2,so_frz' hH v3 hid hx hF hnm⟩
        ·cases hq'
       ·obtain ⟨v,v1,v2,v3⟩:=l7 k q' r c hr hq'
        exact ⟨v,v1,v2,v3.keep hk⟩
      ·cases hq
     ·obtain ⟨v,v1,v2,v3⟩:=l7 q q' r' c hq hq'
      exact ⟨v,v1,v2,v3.keep hk⟩
  ·have h3:H i=.arr e' sz' f' rs:=by
    rw [g0,if_neg hio] at hi
    split at hi
    ·cases hi
    ·exact hi
   have hrow:=hH.row i e' sz' f' rs h3
   refine ⟨hrow.rowlen,?_⟩
   rcases hrow.lies with l|⟨b,cap,cur,l1,l2,l3,l4,l5,l6,l7⟩
   ·exact .inl l
   ·exact .inr ⟨b,cap,cur,l1,l2,l3,l4,l5,l6,fun q q' r' c hq hq'=>by
     obtain ⟨v,v1,v2,v3⟩:=l7 q q' r' c hq hq'
     exact ⟨v,v1,v2,v3.keep hk⟩⟩
 ·obtain ⟨r0,h3,_,_⟩:=garr h1
  obtain ⟨r1,h4,_,_⟩:=garr h2
  exact hH.inj i i' e' sz' r0 e'' sz'' f'' r1 b c s c' s' h3 h4
 ·obtain ⟨N,hN⟩:=hH.fin
  exact ⟨N,fun k d hk=>(gun _).2 (hN k d hk)⟩
def frzN (H:Heap) (o:Id) (e2 sz2:Nat) (rows:List (List AC)) (k j:Nat) (r:List AC):Heap:=
 hset H o (.arr e2 sz2 false (rows.set k (r.set j (.sl .old false []))))
theorem frzN_rel {C:Ctx P} {H:Heap} {ρ:Lies} {w:World} {o:Id} {e2 sz2:Nat} {rows:List (List AC)} {k j:Nat} {r:List AC} (hH:RelH C H ρ w)
  (ho:H o=.arr e2 sz2 false rows) (hr:rows[k]?=some r) (hj:r[j]?=some (.raw (.slice none 0 0))) :
  RelH C (frzN H o e2 sz2 rows k j r) ρ w∧Keeps w w (Fr C H ρ) (Fr C (frzN H o e2 sz2 rows k j r) ρ) H (frzN H o e2 sz2 rows k j r) ρ ρ:=by
 generalize hH2:frzN H o e2 sz2 rows k j r=H2
 have g0:∀i,H2 i=if i=o then .arr e2 sz2 false (rows.set k (r.set j (.sl .old false []))) else H i:=fun i=>by
  rw [←hH2];rfl
 have gun:∀i,H2 i=.unborn↔H i=.unborn:=fun i=>by
  rw [g0]
  split
  ·rename_i h;subst h;rw [ho];simp
  ·exact Iff.rfl
 have garr:∀{i e' sz' f' rs},H2 i=.arr e' sz' f' rs→∃rs0,H i=.arr e' sz' f' rs0∧rs0.length=rs.length:=fun {i e' sz' f' rs} h=>by
  rw [g0] at h
  split at h
  ·rename_i hi
   subst hi
   cases h
   exact ⟨rows,ho,by simp⟩
  ·exact ⟨rs,h,rfl⟩
 have hmut:∀b,Mut H2 ρ b→Mut H ρ b:=fun b ⟨i,e',sz',rs,cap,s,h1,h2⟩=>by
  obtain ⟨rs0,h3,_⟩:=garr h1
  exact ⟨i,e',sz',rs0,cap,s,h3,h2⟩
 have hF:∀t b,Fr C H ρ t b→Fr C H2 ρ t b:=fun t b h=>⟨h.1,fun q=>h.2 (hmut b q)⟩
 have hk:Keeps w w (Fr C H ρ) (Fr C H2 ρ) H H2 ρ ρ:=by
  refine ⟨Nat.le_refl _,fun t b h _=>⟨hF t b h,rfl⟩,fun i hi=>⟨fun q=>hi ((gun i).1 q),fun hl=>⟨?_,rfl⟩⟩⟩
  cases h2:H2 i with
  |arr e' sz' f' rs=>
   obtain ⟨rs0,h3,_⟩:=garr h2
   rw [h3];rfl
  |_=>rw [h2] at hl;cases hl
 refine ⟨⟨hH.below,fun i e' sz' f' rs hi=>?_,fun i i' e' sz' rs e'' sz'' f'' rs' b c s c' s' h1 h2=>?_,?_⟩,hk⟩
 ·by_cases hio:i=o
  ·subst hio
   rw [g0,if_pos rfl] at hi
   cases hi
   have hrow:=hH.row i e2 sz2 false rows ho
   refine ⟨fun q r' hq=>?_,?_⟩
   ·rw [List.getElem?_set] at hq
    split at hq
    ·split at hq
     ·cases hq
      rw [List.length_set]
      exact hrow.rowlen k r hr
     ·cases hq
    ·exact hrow.rowlen q r' hq
   ·rcases hrow.lies with ⟨l1,l2⟩|⟨b,cap,cur,l1,l2,l3,l4,l5,l6,l7⟩
    ·subst l2;simp at hr
    ·refine .inr ⟨b,cap,cur,l1,l2,l3,by simpa using l4,l5,l6,fun q q' r' c hq hq'=>?_⟩
     rw [List.getElem?_set] at hq
     split at hq
     ·rename_i hkq
      subst hkq
      split at hq
      ·cases hq
       rw [List.getElem?_set] at hq'
       split at hq'
       ·rename_i hjq
        subst hjq
        split at hq'
        ·cases hq'
         obtain ⟨v,v1,v2,v3⟩:=l7 k j r _ hr hj
         have hv:=relC_raw v3
         exact ⟨v,v1,v2,.slNil _ _ _ (.inl hv)⟩
        ·cases hq'
       ·obtain ⟨v,v1,v2,v3⟩:=l7 k q' r c hr hq'
        exact ⟨v,v1,v2,v3.keep hk⟩
      ·cases hq
     ·obtain ⟨v,v1,v2,v3⟩:=l7 q q' r' c hq hq'
      exact ⟨v,v1,v2,v3.keep hk⟩
  ·have h3:H i=.arr e' sz' f' rs:=by
    rw [g0,if_neg hio] at hi
    exact hi
   have hrow:=hH.row i e' sz' f' rs h3
   refine ⟨hrow.rowlen,?_⟩
   rcases hrow.lies with l|⟨b,cap,cur,l1,l2,l3,l4,l5,l6,l7⟩
   ·exact .inl l
   ·exact .inr ⟨b,cap,cur,l1,l2,l3,l4,l5,l6,fun q q' r' c hq hq'=>by
     obtain ⟨v,v1,v2,v3⟩:=l7 q q' r' c hq hq'
     exact ⟨v,v1,v2,v3.keep hk⟩⟩
 ·obtain ⟨r0,h3,_⟩:=garr h1
  obtain ⟨r1,h4,_⟩:=garr h2
  exact hH.inj i i' e' sz' r0 e'' sz'' f'' r1 b c s c' s' h3 h4
 ·obtain ⟨N,hN⟩:=hH.fin
  exact ⟨N,fun k d hk=>(gun _).2 (hN k d hk)⟩
inductive Frz:Heap→Heap→Prop where
 |refl (H:Heap):Frz H H
 |step {H H':Heap} {id o:Id} {e sz e2 sz2:Nat} {xs rows:List (List AC)} {k j:Nat} {r:List AC} (hid:H id=.arr e sz false xs) (hx:∀r∈xs,∀c∈r,RetOK c)
   (ho:H o=.arr e2 sz2 false rows) (hne:o≠id) (hr:rows[k]?=some r) (hj:r[j]?=some (.so id 0 xs.length)) (h:Frz (frz1 H id o e2 sz2 rows xs k j r) H'):Frz H H'
 |nil {H H':Heap} {o:Id} {e2 sz2:Nat} {rows:List (List AC)} {k j:Nat} {r:List AC} (ho:H o=.arr e2 sz2 false rows) (hr:rows[k]?=some r) (hj:r[j]?=some (.raw (.slice none 0 0)))
   (h:Frz (frzN H o e2 sz2 rows k j r) H'):Frz H H'
theorem Frz.rel {H H':Heap} (h:Frz H H') {C:Ctx P} {ρ:Lies} {st:St} {a:Act} {w:World} (hr:Rel C ρ st a w) (he:st.H=H):Rel C ρ {st with H:=H'} a w:=by
 induction h generalizing st with
 |refl H=>subst he;exact hr
 |step hid hx ho hne hrw hj h ih=>
  subst he
  obtain ⟨h1,h2⟩:=frz1_rel hr.heap hid hx ho hne hrw hj
  have:=ih (st:={st with H:=frz1 st.H _ _ _ _ _ _ _ _ _}) (hr.heapTo (T':=st.T) h1 h2) rfl
  exact this
 |nil ho hrw hj h ih=>
  subst he
  obtain ⟨h1,h2⟩:=frzN_rel hr.heap ho hrw hj
  have:=ih (st:={st with H:=frzN st.H _ _ _ _ _ _ _}) (hr.heapTo (T':=st.T) h1 h2) rfl
  exact this
def finF (P:Program) (fn:Func) (ret:AV) (e:AEx) (st:St):Prop:=
 (match e with|.normal|.ret=>True|_=>False)∧∃H' res,Frz st.H H'∧resA P {st with H:=H'} fn.results.toList=some res∧exV H' res ret∧(soIds res.flat).Nodup
theorem pevF_of {calm:Array Oper→Bool} (hcalm:CalmOK P calm) {f:FuncId} {fn:Func} {c:Code} {args:List AV} {ret:AV} (hf:P.funcs[f]?=some fn) (hb:fn.body=some c)
  (hok:fnOK calm fn args.length=true) (hret:∀c∈ret.flat,RetC c) (harg:∀x∈args,∀c∈x.flat,VOK c) (h:awp P c (finF P fn ret) (initS args)):PEv P f args ret:=by
 simp only [fnOK,hb,Bool.and_eq_true,decide_eq_true_eq,bne_iff_ne,ne_eq] at hok
 obtain ⟨⟨hname,hcode⟩,hle⟩:=hok
 refine ⟨⟨by simp [okCall,hf,hb,hname],hret,harg⟩,fun w hI G vs hsz hargs nm inj=>?_⟩
 refine calls_of_wp hf hb (Code.wp_mono (fun e a w' q=>?_) (awp_sound calm hcalm c fn.ntmps _ noLies (initS args) _ w hcode (by simp;omega) (initRel hsz hargs) h))
 have fin:SemK (Ctx.of w hI G) fn.ntmps (fun st=>∃H' res,Frz st.H H'∧resA P {st with H:=H'} fn.results.toList=some res∧exV H' res ret∧(soIds res.flat).Nodup) a w'→
   a.defers=[]∧∃v,(results fn a.tmps).run P w'=.ok v w'∧(∃v',Ending.returned v=.returned v'∧∃ρ,RelH (Ctx.of w hI G) (adH nm 0 ret.flat noHeap) ρ w'∧
    RelV w' (Fr (Ctx.of w hI G) (adH nm 0 ret.flat noHeap) ρ) (adH nm 0 ret.flat noHeap) ρ (ret.ad nm) v'):=fun ⟨_,ρ,st,hr,H',res,gf,g1,g2,g3⟩=>by
  have hr':=gf.rel hr rfl
  obtain ⟨v,h1,h2⟩:=resA_sound hr' g1
  obtain ⟨ρ',h3,h4⟩:=export_rel hr' h2 hret g2 g3 nm inj
  exact ⟨hr.nodef,v,h1,v,rfl,ρ',h3,h4⟩
 cases e with
 |normal=>exact fin (SemK.mono q fun st hs=>hs.2)
 |ret=>exact fin (SemK.mono q fun st hs=>hs.2)
 |exit id=>
  obtain ⟨_,_,_,_,hs⟩:=q
  exact hs.1.elim
 |_=>exact q.elim
theorem tells_frz (hm:P.follows .mixedOrders=true) {F:CT} (hF:CTok P F) {f:FuncId} {fn:Func} {s:SC} {args:List AV} {ret:AV} (hf:P.funcs[f]?=some fn) (hs:slimK fn.body s=some (unK s,true))
  (hok:fnOK calmB fn 0=true) (hle:Nat.ble args.length fn.ntmps=true) (hret:∀c∈ret.flat,RetC c) (harg:∀x∈args,∀c∈x.flat,VOK c) (h:awpS P F s (finF P fn ret) (initS args)):PEv P f args ret:=by
 cases hb:fn.body with
 |none=>rw [hb] at hs;cases hs
 |some c=>
  rw [hb] at hs
  simp only [slimK,Option.map_some,Option.some.injEq,Prod.mk.injEq] at hs
  refine pevF_of (calm_ok hm) hf hb ?_ hret harg (awpS_sound hF hs.1 hs.2 h)
  simp only [fnOK,hb,Bool.and_eq_true] at hok ⊢
  exact ⟨hok.1,by simpa using Nat.le_of_ble_eq_true hle⟩
@[simp] theorem finF_ret {fn:Func} {ret:AV} {st:St}:finF P fn ret .ret st=∃H' res,Frz st.H H'∧resA P {st with H:=H'} fn.results.toList=some res∧exV H' res ret∧(soIds res.flat).Nodup:=by simp [finF]
@[simp] theorem finF_normal {fn:Func} {ret:AV} {st:St}:finF P fn ret .normal st=∃H' res,Frz st.H H'∧resA P {st with H:=H'} fn.results.toList=some res∧exV H' res ret∧(soIds res.flat).Nodup:=by simp [finF]
end Go.AE
set_option linter.unusedVariables false
set_option linter.unusedSimpArgs false
set_option maxHeartbeats 4000000
set_option maxRecDepth 100000
namespace Go.AE
open Go Go.Proofs
theorem num15_ev (n:Int):PEv Tryz.prog 9 [.c (.raw (.int .i64 n))] (.c (.raw (.int .i64 n))):=by
 refine tells_of mixed (F:=[]) trivial Tryz.func9 sl9 ok9 (by kernel_rfl) (by simp -implicitDefEqProofs (maxSteps:=400000) (maxDischargeDepth:=6)) (by simp -implicitDefEqProofs (maxSteps:=400000) (maxDischargeDepth:=6)) ?_
 simp -implicitDefEqProofs (maxSteps:=400000) (maxDischargeDepth:=6) [s9]
def longT:List UInt8:=[48,49,50,51,52,53,54,55,56,57,97,98]
def longO:OpV:=⟨1,1,1,⟨0,0,0⟩,longT,[⟨2,1,0⟩,⟨2,2,0⟩,⟨2,3,0⟩,⟨2,4,0⟩],0,0,0⟩
def joinE (n:Int):EntryV:=⟨true,n,zeroO⟩
def someL:List EntryV:=[joinE 1,⟨false,0,longO⟩,joinE 2,joinE 3,joinE 9]
end Go.AE
set_option linter.unusedVariables false
set_option maxRecDepth 100000
namespace Go.AE
open Go
theorem longT_text:textB longT=true:=by decide +kernel
theorem longT_runes:runesN longT=12:=by decide +kernel
theorem t0_text:textB []=true:=by decide +kernel
def staleD:Nat→DiskV×Int
 |0=>(⟨List.replicate 12 blank,[]⟩,0)
 |i+1=>((appendR (staleD i).1 (staleD i).2 (someL.getD i zeroE)).1,(appendR (staleD i).1 (staleD i).2 (someL.getD i zeroE)).2.1)
theorem stale_app1:(appendR (staleD 0).1 (staleD 0).2 (joinE 1)).2.2=0:=by decide +kernel
theorem stale_app2:(appendR (staleD 1).1 (staleD 1).2 ⟨false,0,longO⟩).2.2=0:=by decide +kernel
end Go.AE
set_option linter.unusedVariables false
set_option linter.unusedSimpArgs false
set_option maxHeartbeats 4000000
set_option maxRecDepth 100000
namespace Go.AE
open Go Go.Proofs
def FE3_h13:List AV→Option (Prop×AV):=t2 (fun a _=>a.length<4611686018427387904∧okL a) fun a b:List EntryV=>.c (.raw (.bool (decide (a=b))))
@[simp] theorem FE3_ap13 {l:List AV}:FE3_h13 l=(t2 (fun a _=>a.length<4611686018427387904∧okL a) fun a b:List EntryV=>.c (.raw (.bool (decide (a=b))))) l:=rfl
def FE3_h8:List AV→Option (Prop×AV):=t3 (fun (d:DiskV) (n:Int) (e:EntryV)=>d.safe.length<1000000∧d.wait.length<1000000∧e.op.text.length<1000000∧e.op.gone.length<1000000∧n<9223372036854775808) fun (d:DiskV) (n:Int) (e:EntryV)=>appendAV (appendR d n e)
@[simp] theorem FE3_ap8 {l:List AV}:FE3_h8 l=(t3 (fun (d:DiskV) (n:Int) (e:EntryV)=>d.safe.length<1000000∧d.wait.length<1000000∧e.op.text.length<1000000∧e.op.gone.length<1000000∧n<9223372036854775808) fun (d:DiskV) (n:Int) (e:EntryV)=>appendAV (appendR d n e)) l:=rfl
def FE3_h14:List AV→Option (Prop×AV):=t2 (fun (d:DiskV) _=>d.safe.length<1000000∧d.wait.length<1000000) fun (d:DiskV) (n:Int)=>diskE (cleanR d n)
@[simp] theorem FE3_ap14 {l:List AV}:FE3_h14 l=(t2 (fun (d:DiskV) _=>d.safe.length<1000000∧d.wait.length<1000000) fun (d:DiskV) (n:Int)=>diskE (cleanR d n)) l:=rfl
def FE3_h9:List AV→Option (Prop×AV):=t1 (fun _=>True) fun n:Int=>.c (.raw (.int .i64 n))
@[simp] theorem FE3_ap9 {l:List AV}:FE3_h9 l=(t1 (fun _=>True) fun n:Int=>.c (.raw (.int .i64 n))) l:=rfl
def FE3:CT:=(13,.pu FE3_h13)::(8,.pu FE3_h8)::(14,.pu FE3_h14)::(9,.pu FE3_h9)::FE2
theorem FE3_ok:CTok Tryz.prog FE3:=⟨tells2 fun a b h=>eqEntries_ev a b h.1 h.2,
 tells3 fun d n e h=>append_ev d n e h.1 h.2.1 h.2.2.1 h.2.2.2.1 h.2.2.2.2,
 tells2 fun d n h=>clean_ev d n h.1 h.2,
 tells1 fun n _=>num15_ev n,FE2_ok⟩
@[simp] theorem FE3_get13:ctGet FE3 13=some (.pu FE3_h13):=rfl
@[simp] theorem FE3_get8:ctGet FE3 8=some (.pu FE3_h8):=rfl
@[simp] theorem FE3_get14:ctGet FE3 14=some (.pu FE3_h14):=rfl
@[simp] theorem FE3_get9:ctGet FE3 9=some (.pu FE3_h9):=rfl
@[simp] theorem FE3_skip {n:Nat} (h:(n==13||n==8||n==14||n==9)=false):ctGet FE3 n=ctGet FE2 n:=by
 simp only [Bool.or_eq_false_iff,beq_eq_false_iff_ne,ne_eq] at h
 simp [FE3,ctGet,h]
def wkD0:DiskV:=⟨List.replicate 4 blank,[]⟩
def wkD1:DiskV:=(appendR wkD0 0 (joinE 5)).1
def wkD2:DiskV:=(syncR wkD1).1
theorem wkk1:appendR wkD0 0 (joinE 5)=(wkD1,1,0):=by decide +kernel
theorem wkk2:syncR wkD1=(wkD2,0):=by decide +kernel
theorem wkk3:loadR wkD2=([joinE 5],1,0):=by decide +kernel
theorem wkk4:wkD1.safe.length=4∧wkD1.wait.length=1∧wkD2.safe.length=4∧wkD2.wait.length=0:=by decide +kernel
theorem wakes15_ev:PEv Tryz.prog 16 [] (.c (.raw (.bool true))):=by
 refine tells_of mixed FE3_ok Tryz.func16 sl16 ok16 (by kernel_rfl) (by simp -implicitDefEqProofs (maxSteps:=400000) (maxDischargeDepth:=6)) (by simp -implicitDefEqProofs (maxSteps:=400000) (maxDischargeDepth:=6)) ?_
 have w1:appendR ⟨List.replicate 4 blank,[]⟩ 0 ⟨true,5,0,0,0,⟨0,0,0⟩,[],[],0,0,0⟩=(wkD1,1,0):=wkk1
 have w2:=wkk2
 have w3:=wkk3
 obtain ⟨l1,l2,l3,l4⟩:=wkk4
 generalize wkD1=D1 at *
 generalize wkD2=D2 at *
 obtain ⟨a1,b1⟩:=D1
 obtain ⟨a2,b2⟩:=D2
 simp only at l1 l2 l3 l4
 obtain rfl:b2=[]:=List.eq_nil_of_length_eq_zero l4
 simp -implicitDefEqProofs (maxSteps:=400000) (maxDischargeDepth:=6) [-List.reduceReplicate,s16,diskNw,diskE,appendAV,loadAV,w1,w2,w3,l1,l2,l3,l4,joinE,entRow,opRow,zeroO]
end Go.AE
set_option linter.unusedVariables false
set_option linter.unusedSimpArgs false
set_option maxHeartbeats 4000000
set_option maxRecDepth 100000
namespace Go.AE
open Go Go.Proofs
theorem and127i {m:Nat} (h:m<9223372036854775808):iand .i64 (m:Int) 127=((m%128:Nat):Int):=by
 have h1:((BitVec.ofInt 64 (m:Int)) &&&(BitVec.ofInt 64 127)).toNat=m%128:=by
  rw [BitVec.toNat_and]
  have e1:(BitVec.ofInt 64 (m:Int)).toNat=m:=by simp -implicitDefEqProofs (maxSteps:=400000) (maxDischargeDepth:=6);omega
  have e2:(BitVec.ofInt 64 127).toNat=2^7-1:=by decide
  rw [e1,e2,Nat.and_two_pow_sub_one_eq_mod]
 show IntKind.wrap .i64 (((BitVec.ofInt 64 (m:Int)) &&&(BitVec.ofInt 64 127)).toNat:Int)=_
 rw [h1]
 exact wrap64_id (by omega) (by omega)
theorem or128 {r:Nat} (h:r<128):ior .i64 (r:Int) 128=((r+128:Nat):Int):=by
 have:=or_add (acc:=r) (x:=1) (i:=1) (by omega) (by omega) (by omega)
 simpa using this
theorem refNum_ev (n:Nat) (hn:n<9223372036854775808):PEv Tryz.prog 88 [.c (.raw (.int .i64 n))] (.c (.str (bytesN n))):=by
 refine tells_of mixed (F:=[]) trivial Tryz.func88 sl88 ok88 (by kernel_rfl) (by simp -implicitDefEqProofs (maxSteps:=400000) (maxDischargeDepth:=6)) (by simp -implicitDefEqProofs (maxSteps:=400000) (maxDischargeDepth:=6)) ?_
 simp -implicitDefEqProofs (maxSteps:=400000) (maxDischargeDepth:=6) [s88]
 refine loop_n (fun q st=>∃(k m:Nat) (L:List UInt8) (c:AC),q=k∧k≤9∧m<128^k∧L++bytesF k m=bytesN n∧st.s 0=.c (.raw (.int .i64 m))∧st.s 3=.c c∧OwnL st.H 5 1 0 c L∧L.length+k≤9∧Fresh st.H st.T) 9
  ⟨9,n,[],.raw (.slice none 0 0),rfl,by omega,by omega,rfl,by simp -implicitDefEqProofs (maxSteps:=400000) (maxDischargeDepth:=6),by simp -implicitDefEqProofs (maxSteps:=400000) (maxDischargeDepth:=6),OwnL.nil,by simp -implicitDefEqProofs (maxSteps:=400000) (maxDischargeDepth:=6),by simp -implicitDefEqProofs (maxSteps:=400000) (maxDischargeDepth:=6);exact fresh_no.mono (by omega)⟩ ?_
 rintro q st ⟨k,m,L,c,hq,hk,hm,hL,k0,k3,hc,hl,hf⟩
 have hfu:∀k d,st.T≤k→st.H (k,d)=.unborn:=hf
 have hm9:m<9223372036854775808:=Nat.lt_of_lt_of_le hm (Nat.le_trans (Nat.pow_le_pow_right (by omega) hk) (by decide))
 by_cases hlt:128≤m
 ·have hlt':(128:Int)≤m:=by omega
  cases k with
  |zero=>simp -implicitDefEqProofs (maxSteps:=400000) (maxDischargeDepth:=6) at hm;omega
  |succ k=>
   have c1:=and127i hm9
   have c2:(m:Int).fdiv (2^7)=((m/128:Nat):Int):=by
    rw [Int.fdiv_eq_ediv_of_nonneg _ (by exact Int.pow_nonneg (by omega))];omega
   simp only [show (2:Int)^7=128 from rfl] at c2
   have b:IntKind.bits .i64=64:=rfl
   obtain ⟨r,hr,hr2⟩:∃r:Nat,m%128=r∧r<128:=⟨m%128,rfl,by omega⟩
   obtain ⟨p,hp⟩:∃p:Nat,m/128=p:=⟨m/128,rfl⟩
   rw [hr] at c1
   rw [hp] at c2
   have e1:=or128 hr2
   obtain ⟨y,hy⟩:∃y:Nat,r+128=y:=⟨_,rfl⟩
   rw [hy] at e1
   have e2:IntKind.wrap .u8 (y:Int)=y:=wrap8_id (by omega) (by omega)
   have hm2:p<128^k:=by rw [Nat.pow_succ] at hm;omega
   have hL2:(L++[UInt8.ofNat y])++bytesF k p=bytesN n:=by rw [←hL,bytesF_step hlt,hr,hp,hy];simp -implicitDefEqProofs (maxSteps:=400000) (maxDischargeDepth:=6)
   rcases hc with ⟨rfl,rfl⟩|⟨id,rfl,hid0,hid⟩
   ·simp -implicitDefEqProofs (maxSteps:=400000) (maxDischargeDepth:=6) [s88L0,k0,k3,hlt',hfu,b,c1,c2,e1,e2,Nat.le_add_right_of_le]
    refine ⟨k,by omega,by omega,p,hm2,[UInt8.ofNat y],by simpa using hL2,rfl,OwnL.so rfl (Nat.zero_le _) ?_,(by have:=hl;simp -implicitDefEqProofs (maxSteps:=400000) (maxDischargeDepth:=6) at this ⊢;omega),?_⟩
    ·simp -implicitDefEqProofs (maxSteps:=400000) (maxDischargeDepth:=6) [rowsU8_one (y:Int) (by omega) (by omega)]
    ·repeat' (first|exact hf.mono (by first|omega|(simp<;>omega))|(refine Fresh.set' ?_ (by first|omega|(simp<;>omega))))
   ·obtain ⟨f1,f2,f3⟩:=hf.arr hid
    simp -implicitDefEqProofs (maxSteps:=400000) (maxDischargeDepth:=6) [s88L0,k0,k3,hlt',hfu,b,c1,c2,e1,e2,f1,f2,hid,Nat.le_add_right_of_le]
    refine ⟨⟨by omega,by omega⟩,k,by omega,by omega,p,hm2,L++[UInt8.ofNat y],hL2,rfl,OwnL.so (by simp -implicitDefEqProofs (maxSteps:=400000) (maxDischargeDepth:=6)) (Nat.zero_le _) ?_,by simp -implicitDefEqProofs (maxSteps:=400000) (maxDischargeDepth:=6);omega,?_⟩
    ·simp -implicitDefEqProofs (maxSteps:=400000) (maxDischargeDepth:=6) [rowsU8_snoc L (y:Int) (by omega) (by omega)]
    ·repeat' (first|exact hf.mono (by first|omega|(simp<;>omega))|(refine Fresh.set' ?_ (by first|omega|(simp<;>omega))))
 ·have hlt':¬(128:Int)≤m:=by omega
  have e2:IntKind.wrap .u8 (m:Int)=m:=wrap8_id (by omega) (by omega)
  rw [bytesF_last (by omega)] at hL
  rcases hc with ⟨rfl,rfl⟩|⟨id,rfl,hid0,hid⟩
  ·simp -implicitDefEqProofs (maxSteps:=400000) (maxDischargeDepth:=6) [s88L0,k0,k3,hlt',hfu,e2,Nat.le_add_right_of_le]
   simpa using hL
  ·obtain ⟨f1,f2,f3⟩:=hf.arr hid
   simp -implicitDefEqProofs (maxSteps:=400000) (maxDischargeDepth:=6) [s88L0,k0,k3,hlt',hfu,e2,f1,f2,hid,List.take_of_length_le,hL,Nat.le_add_right_of_le]
   omega
theorem refCheck_ev (s:List UInt8) (hs:s.length<4611686018427387904):PEv Tryz.prog 90 [.c (.str s)] (.c (.raw (.int .u32 (ofN s)))):=by
 refine tells_of mixed (F:=[]) trivial Tryz.func90 sl90 ok90 (by kernel_rfl) (by simp -implicitDefEqProofs (maxSteps:=400000) (maxDischargeDepth:=6)) (by simp -implicitDefEqProofs (maxSteps:=400000) (maxDischargeDepth:=6)) ?_
 simp -implicitDefEqProofs (maxSteps:=400000) (maxDischargeDepth:=6) [s90]
 refine loop_n (fun q st=>∃(i h:Nat),i≤s.length∧q=s.length-i∧h<4294967291∧st.s 0=.c (.str s)∧st.s 3=.c (.raw (.int .u64 h))∧st.s 4=.c (.raw (.int .i64 i))∧ofF h (s.drop i)=ofN s) s.length
  ⟨0,1,by omega,rfl,by omega,by simp -implicitDefEqProofs (maxSteps:=400000) (maxDischargeDepth:=6),by simp -implicitDefEqProofs (maxSteps:=400000) (maxDischargeDepth:=6),by simp -implicitDefEqProofs (maxSteps:=400000) (maxDischargeDepth:=6),rfl⟩ ?_
 rintro q st ⟨i,h,hi,rfl,hh,k0,k3,k4,hT⟩
 by_cases hlt:i<s.length
 ·have hlt':(i:Int)<s.length:=by omega
  have hb:=s[i].toNat_lt
  rw [ofF_step hlt] at hT
  have c1:=bts_at s i hlt
  obtain ⟨b,hb2,hb3⟩:∃b:Nat,s[i].toNat=b∧b<256:=⟨_,rfl,hb⟩
  rw [hb2] at c1 hT
  have c2:IntKind.wrap .u64 ((h:Int)*263)=(h:Int)*263:=by rw [wrap64u_mod];omega
  have c3:IntKind.wrap .u64 (b:Int)=b:=by rw [wrap64u_mod];omega
  have c4:IntKind.wrap .u64 ((h:Int)*263+b)=(h:Int)*263+b:=by rw [wrap64u_mod];omega
  have c5:IntKind.wrap .u64 ((h:Int)*263+b+7)=(h:Int)*263+b+7:=by rw [wrap64u_mod];omega
  obtain ⟨z,hz,hz2⟩:∃z:Nat,(h*263+b+7)%4294967291=z∧z<4294967291:=⟨_,rfl,Nat.mod_lt _ (by omega)⟩
  have c6:((h:Int)*263+b+7).tmod 4294967291=z:=by rw [Int.tmod_eq_emod_of_nonneg (by omega)];omega
  have e2:IntKind.wrap .i64 ((i:Int)+1)=(i:Int)+1:=by rw [wrap64_id]<;>omega
  rw [hz] at hT
  simp -implicitDefEqProofs (maxSteps:=400000) (maxDischargeDepth:=6) [s90L0,k0,k3,k4,hlt,c1,c2,c3,c4,c5,c6,e2]
  exact ⟨s.length-(i+1),by omega,i+1,by omega,rfl,z,hz2,rfl,rfl,hT⟩
 ·have:i=s.length:=by omega
  subst this
  have hr:h=ofN s:=by rw [←hT];simp -implicitDefEqProofs (maxSteps:=400000) (maxDischargeDepth:=6) [ofF]
  have c7:IntKind.wrap .u32 (h:Int)=h:=by rw [wrap32_mod];omega
  rw [hr] at c7 k3
  simp -implicitDefEqProofs (maxSteps:=400000) (maxDischargeDepth:=6) [s90L0,k0,k3,k4,c7]
def FG0_h88:List AV→Option (Prop×AV):=t1 (fun n=>0≤n∧n<9223372036854775808) fun n:Int=>.c (.str (bytesN n.toNat))
@[simp] theorem FG0_ap88 {l:List AV}:FG0_h88 l=(t1 (fun n=>0≤n∧n<9223372036854775808) fun n:Int=>.c (.str (bytesN n.toNat))) l:=rfl
def FG0_h90:List AV→Option (Prop×AV):=t1 (fun s=>s.length<4611686018427387904) fun s:List UInt8=>.c (.raw (.int .u32 (ofN s)))
@[simp] theorem FG0_ap90 {l:List AV}:FG0_h90 l=(t1 (fun s=>s.length<4611686018427387904) fun s:List UInt8=>.c (.raw (.int .u32 (ofN s)))) l:=rfl
def FG0:CT:=(88,.pu FG0_h88)::(90,.pu FG0_h90)::FE3
theorem FG0_ok:CTok Tryz.prog FG0:=⟨tells1 fun n h=>by have:=refNum_ev n.toNat (by omega);rwa [Int.toNat_of_nonneg h.1] at this,
 tells1 fun s h=>refCheck_ev s h,FE3_ok⟩
@[simp] theorem FG0_get88:ctGet FG0 88=some (.pu FG0_h88):=rfl
@[simp] theorem FG0_get90:ctGet FG0 90=some (.pu FG0_h90):=rfl
@[simp] theorem FG0_skip {n:Nat} (h:(n==88||n==90)=false):ctGet FG0 n=ctGet FE3 n:=by
 simp only [Bool.or_eq_false_iff,beq_eq_false_iff_ne,ne_eq] at h
 simp [FG0,ctGet,h]
theorem refText_ev (s:List UInt8) (hs:s.length<140737488355328):PEv Tryz.prog 117 [.c (.str s)] (.c (.str (bytesN s.length++s))):=by
 refine tells_of mixed FG0_ok Tryz.func117 sl117 ok117 (by kernel_rfl) (by simp) (by simp) ?_
 have:=bytesN_len s.length
 simp -implicitDefEqProofs (maxSteps:=400000) (maxDischargeDepth:=6) [s117,show s.length<9223372036854775808 by omega]
 omega
theorem refFrame_ev (s:List UInt8) (hs:s.length<4611686018427387904):PEv Tryz.prog 54 [.c (.str s)] (.c (.str (sealA s))):=by
 refine tells_of mixed FG0_ok Tryz.func54 sl54 ok54 (by kernel_rfl) (by simp) (by simp) ?_
 have hb:=bytesN_len s.length
 by_cases h7:700<s.length
 ·have h7':(700:Int)<s.length:=by omega
  simp -implicitDefEqProofs (maxSteps:=400000) (maxDischargeDepth:=6) [s54,h7',sealA,h7]
 ·have h7':¬(700:Int)<s.length:=by omega
  have l1:(speltN (ofN (bytesN s.length++s))).length=4:=rfl
  have hlt4:=ofN_lt (bytesN s.length++s)
  rw [sealA,if_neg h7]
  generalize hh:ofN (bytesN s.length++s)=h at *
  have c:∀k:Nat,(h:Int).fdiv (2^k)=((h/2^k:Nat):Int):=fun k=>by
   rw [Int.fdiv_eq_ediv_of_nonneg _ (by exact Int.pow_nonneg (by omega))]
   push_cast
   rfl
  have w8:∀n:Nat,IntKind.wrap .u8 (n:Int)=((n%256:Nat):Int):=fun n=>by rw [wrap8_mod (by omega)];omega
  have u8:∀n:Nat,UInt8.ofNat (n%256)=UInt8.ofNat n:=fun n=>by
   apply UInt8.toNat_inj.1
   simp -implicitDefEqProofs (maxSteps:=400000) (maxDischargeDepth:=6)
  have b:IntKind.bits .u32=32:=rfl
  have c1:=c 24
  have c2:=c 16
  have c3:=c 8
  simp only [show (2:Nat)^24=16777216 from rfl,show (2:Nat)^16=65536 from rfl,show (2:Nat)^8=256 from rfl,show (2:Int)^24=16777216 from rfl,show (2:Int)^16=65536 from rfl,show (2:Int)^8=256 from rfl] at c1 c2 c3
  obtain ⟨x1,h1⟩:∃x,h/16777216=x:=⟨_,rfl⟩
  obtain ⟨x2,h2⟩:∃x,h/65536=x:=⟨_,rfl⟩
  obtain ⟨x3,h3⟩:∃x,h/256=x:=⟨_,rfl⟩
  rw [h1] at c1
  rw [h2] at c2
  rw [h3] at c3
  have v0:=w8 h
  have v1:=w8 x1
  have v2:=w8 x2
  have v3:=w8 x3
  obtain ⟨y0,g0⟩:∃x,h%256=x:=⟨_,rfl⟩
  obtain ⟨y1,g1⟩:∃x,x1%256=x:=⟨_,rfl⟩
  obtain ⟨y2,g2⟩:∃x,x2%256=x:=⟨_,rfl⟩
  obtain ⟨y3,g3⟩:∃x,x3%256=x:=⟨_,rfl⟩
  rw [g0] at v0
  rw [g1] at v1
  rw [g2] at v2
  rw [g3] at v3
  have n1:s.length<9223372036854775808:=by omega
  have n2:(bytesN s.length).length+s.length<4611686018427387904:=by omega
  simp -implicitDefEqProofs (maxSteps:=400000) (maxDischargeDepth:=6) [s54,h7',hh,b,c1,c2,c3,v0,v1,v2,v3,n1,n2]
  rw [speltN,h1,h2,h3,←u8 x1,←u8 x2,←u8 x3,←u8 h,g0,g1,g2,g3]
  simp -implicitDefEqProofs (maxSteps:=400000) (maxDischargeDepth:=6)
  omega
end Go.AE
set_option linter.unusedVariables false
set_option linter.unusedSimpArgs false
set_option maxHeartbeats 4000000
set_option maxRecDepth 100000
namespace Go.AE
open Go Go.Proofs
def FG1_h117:List AV→Option (Prop×AV):=t1 (fun s=>s.length<140737488355328) fun s:List UInt8=>.c (.str (bytesN s.length++s))
@[simp] theorem FG1_ap117 {l:List AV}:FG1_h117 l=(t1 (fun s=>s.length<140737488355328) fun s:List UInt8=>.c (.str (bytesN s.length++s))) l:=rfl
def FG1_h54:List AV→Option (Prop×AV):=t1 (fun s=>s.length<4611686018427387904) fun s:List UInt8=>.c (.str (sealA s))
@[simp] theorem FG1_ap54 {l:List AV}:FG1_h54 l=(t1 (fun s=>s.length<4611686018427387904) fun s:List UInt8=>.c (.str (sealA s))) l:=rfl
def FG1:CT:=(117,.pu FG1_h117)::(54,.pu FG1_h54)::FG0
theorem FG1_ok:CTok Tryz.prog FG1:=⟨tells1 fun s h=>refText_ev s h,
 tells1 fun s h=>refFrame_ev s h,FG0_ok⟩
@[simp] theorem FG1_get117:ctGet FG1 117=some (.pu FG1_h117):=rfl
@[simp] theorem FG1_get54:ctGet FG1 54=some (.pu FG1_h54):=rfl
@[simp] theorem FG1_skip {n:Nat} (h:(n==117||n==54)=false):ctGet FG1 n=ctGet FG0 n:=by
 simp only [Bool.or_eq_false_iff,beq_eq_false_iff_ne,ne_eq] at h
 simp [FG1,ctGet,h]
theorem refElem_ev (e:ElemV) (h:okE e):PEv Tryz.prog 116 [Arg.enc e] (.c (.str (elemN e))):=by
 refine tells_of mixed FG1_ok Tryz.func116 sl116 ok116 (by kernel_rfl) (by simp) (by simp) ?_
 obtain ⟨⟨a1,a2⟩,⟨b1,b2⟩,⟨c1,c2⟩⟩:=h
 have l1:=bytesN_len' e.site.toNat
 have l2:=bytesN_len' e.seq.toNat
 have l3:=bytesN_len' e.i.toNat
 have m1:(bytesN e.site.toNat).length+(bytesN e.seq.toNat).length≤9223372036854775807:=by omega
 have m2:(bytesN e.site.toNat).length+((bytesN e.seq.toNat).length+(bytesN e.i.toNat).length)≤9223372036854775807:=by omega
 have m3:(bytesN e.site.toNat).length+(bytesN e.seq.toNat).length+(bytesN e.i.toNat).length≤9223372036854775807:=by omega
 simp -implicitDefEqProofs (maxSteps:=400000) (maxDischargeDepth:=6) [s116,a1,a2,b1,b2,c1,c2,m1,m2,m3,elemN,numsN]
def FG2_h116:List AV→Option (Prop×AV):=t1 okE fun e:ElemV=>.c (.str (elemN e))
@[simp] theorem FG2_ap116 {l:List AV}:FG2_h116 l=(t1 okE fun e:ElemV=>.c (.str (elemN e))) l:=rfl
def FG2:CT:=(116,.pu FG2_h116)::FG1
theorem FG2_ok:CTok Tryz.prog FG2:=⟨tells1 fun e h=>refElem_ev e h,FG1_ok⟩
@[simp] theorem FG2_get116:ctGet FG2 116=some (.pu FG2_h116):=rfl
@[simp] theorem FG2_skip {n:Nat} (h:(n==116)=false):ctGet FG2 n=ctGet FG1 n:=by
 simp only [Bool.or_eq_false_iff,beq_eq_false_iff_ne,ne_eq] at h
 simp [FG2,ctGet,h]
theorem refOp_ev (o:OpV) (h:okP o):PEv Tryz.prog 89 [Arg.enc o] (.c (.str (spellN o))):=by
 refine tells_of mixed FG2_ok Tryz.func89 sl89 ok89 (by kernel_rfl) (by simp -implicitDefEqProofs (maxSteps:=400000) (maxDischargeDepth:=6)) (by simp -implicitDefEqProofs (maxSteps:=400000) (maxDischargeDepth:=6) [opRow]) ?_
 have hl1:=bytesN_len' o.site.toNat
 have hl2:=bytesN_len' o.seq.toNat
 have hl3:=bytesN_len' o.kind.toNat
 have hl4:=elemN_len o.after
 have hl5:=bytesN_len' o.text.length
 have hl6:=bytesN_len' o.gone.length
 have hl7:=bytesN_len' o.of_.toNat
 have hl8:=bytesN_len' o.num.toNat
 have hl9:=bytesN_len' o.gen.toNat
 have ht:=h.text
 have hg:=h.len
 obtain ⟨a1,a2⟩:=h.site
 obtain ⟨b1,b2⟩:=h.seq
 obtain ⟨c1,c2⟩:=h.kind
 obtain ⟨d1,d2⟩:=h.of_
 obtain ⟨e1,e2⟩:=h.num
 obtain ⟨f1,f2⟩:=h.gen
 have e7:=h.after
 have e9:elemN {site:=o.after.site,seq:=o.after.seq,i:=o.after.i}=elemN o.after:=rfl
 have g1:o.text.length<140737488355328:=by omega
 have g2:o.gone.length<9223372036854775808:=by omega
 have hh:headN o=bytesN o.site.toNat++(bytesN o.seq.toNat++bytesN o.kind.toNat):=by simp -implicitDefEqProofs (maxSteps:=400000) (maxDischargeDepth:=6) [headN,numsN]
 have hhl:(headN o).length≤30:=by rw [hh];simp only [List.length_append];omega
 have m1:(bytesN o.site.toNat).length+(bytesN o.seq.toNat).length≤9223372036854775807:=by omega
 have m2:(bytesN o.site.toNat).length+((bytesN o.seq.toNat).length+(bytesN o.kind.toNat).length)≤9223372036854775807:=by omega
 cases c:decide (o.kind=2)
 rotate_left
 ·have e10:spellN o=headN o++numsN [o.of_,o.num,o.gen]:=by rw [spellN,if_pos (of_decide_eq_true c)]
  have m3:(bytesN o.site.toNat).length+((bytesN o.seq.toNat).length+((bytesN o.kind.toNat).length+(bytesN o.of_.toNat).length))≤9223372036854775807:=by omega
  have m4:(bytesN o.site.toNat).length+((bytesN o.seq.toNat).length+((bytesN o.kind.toNat).length+((bytesN o.of_.toNat).length+(bytesN o.num.toNat).length)))≤9223372036854775807:=by omega
  have m5:(bytesN o.site.toNat).length+((bytesN o.seq.toNat).length+((bytesN o.kind.toNat).length+((bytesN o.of_.toNat).length+((bytesN o.num.toNat).length+(bytesN o.gen.toNat).length))))≤9223372036854775807:=by omega
  simp -implicitDefEqProofs (maxSteps:=400000) (maxDischargeDepth:=6) [s89,opRow,a1,a2,b1,b2,c1,c2,d1,d2,e1,e2,f1,f2,c,m1,m2,m3,m4,m5,e10,hh,numsN]
  try omega
 ·have e10:spellN o=headN o++midN o++o.gone.flatMap elemN:=by rw [spellN,if_neg (of_decide_eq_false c)]
  have m3:(bytesN o.site.toNat).length+((bytesN o.seq.toNat).length+((bytesN o.kind.toNat).length+(elemN o.after).length))≤9223372036854775807:=by omega
  have m4:(bytesN o.site.toNat).length+((bytesN o.seq.toNat).length+((bytesN o.kind.toNat).length+((elemN o.after).length+((bytesN o.text.length).length+o.text.length))))≤9223372036854775807:=by omega
  have m5:(bytesN o.site.toNat).length+((bytesN o.seq.toNat).length+((bytesN o.kind.toNat).length+((elemN o.after).length+((bytesN o.text.length).length+(o.text.length+(bytesN o.gone.length).length)))))≤9223372036854775807:=by omega
  simp -implicitDefEqProofs (maxSteps:=400000) (maxDischargeDepth:=6) [s89,opRow,a1,a2,b1,b2,c1,c2,e7,e9,g1,g2,c,m1,m2,m3,m4,m5]
  refine ⟨by omega,by omega,by omega,by omega,by omega,?_⟩
  have lm:(headN o++midN o).length≤1000200:=by simp -implicitDefEqProofs (maxSteps:=400000) (maxDischargeDepth:=6) [hh,midN,numsN];omega
  refine loop_n (fun n st=>∃i:Nat,i≤o.gone.length∧n=o.gone.length-i∧st.s 1=.c (.pt (0,1) 0 0)∧st.H (0,1)=.arr 46 11 false [opRow .brw o]∧st.s 3=.c (.str (headN o++midN o++(o.gone.take i).flatMap elemN))∧st.s 4=.c (.raw (.int .i64 i))∧Fresh st.H st.T) o.gone.length ?_ ?_
  ·refine ⟨0,by omega,by omega,?_⟩
   simp -implicitDefEqProofs (maxSteps:=400000) (maxDischargeDepth:=6) [hh,midN,numsN,opRow]
   (repeat' (first|exact fresh_no.mono (Nat.zero_le _)|(refine Fresh.set' ?_ (by simp))))
  rintro n st ⟨i,hi,rfl,h1,hH,h3,h4,hf⟩
  have hfu:∀k d,st.T≤k→st.H (k,d)=.unborn:=hf
  by_cases hlt:i<o.gone.length
  ·have hlt':(i:Int)<o.gone.length:=by omega
   have hw:IntKind.wrap .i64 ((i:Int)+1)=((i+1:Nat):Int):=by rw [wrap64_id]<;>omega
   have hg:okE o.gone[i]:=h.gone _ (List.getElem_mem hlt)
   have hg':elemN {site:=o.gone[i].site,seq:=o.gone[i].seq,i:=o.gone[i].i}=elemN o.gone[i]:=rfl
   have hg2:okE {site:=o.gone[i].site,seq:=o.gone[i].seq,i:=o.gone[i].i}:=hg
   have g1:=flat_len (o.gone.take i)
   rw [List.length_take] at g1
   have g2:=elemN_len o.gone[i]
   generalize hX:headN o++midN o++(o.gone.take i).flatMap elemN=X at h3
   have hXl:X.length+(elemN o.gone[i]).length≤9223372036854775807:=by rw [←hX,List.length_append];omega
   simp -implicitDefEqProofs (maxSteps:=400000) (maxDischargeDepth:=6) [s89L0,h1,hH,opRow,h3,h4,hlt,hlt',hw,hfu,hg2,hg',hXl]
   refine ⟨_,?_,i+1,by omega,rfl,?_,rfl,?_⟩
   ·omega
   ·rw [←hX,←List.take_append_getElem hlt,List.flatMap_append]
    simp -implicitDefEqProofs (maxSteps:=400000) (maxDischargeDepth:=6)
   ·repeat' (first|exact hf.mono (by first|omega|(simp<;>omega))|(refine Fresh.set' ?_ (by first|omega|(simp<;>omega))))
  ·have:i=o.gone.length:=by omega
   subst this
   simp -implicitDefEqProofs (maxSteps:=400000) (maxDischargeDepth:=6) [s89L0,h1,hH,opRow,h3,h4,e10]
def FG3_h89:List AV→Option (Prop×AV):=t1 okP fun o:OpV=>.c (.str (spellN o))
@[simp] theorem FG3_ap89 {l:List AV}:FG3_h89 l=(t1 okP fun o:OpV=>.c (.str (spellN o))) l:=rfl
def FG3:CT:=(89,.pu FG3_h89)::FG2
theorem FG3_ok:CTok Tryz.prog FG3:=⟨tells1 fun o h=>refOp_ev o h,FG2_ok⟩
@[simp] theorem FG3_get89:ctGet FG3 89=some (.pu FG3_h89):=rfl
@[simp] theorem FG3_skip {n:Nat} (h:(n==89)=false):ctGet FG3 n=ctGet FG2 n:=by
 simp only [Bool.or_eq_false_iff,beq_eq_false_iff_ne,ne_eq] at h
 simp [FG3,ctGet,h]
theorem refPlain_ev (e:EntryV) (h:okF e):PEv Tryz.prog 53 [Arg.enc e] (.c (.str (plainN e))):=by
 refine tells_of mixed FG3_ok Tryz.func53 sl53 ok53 (by kernel_rfl) (by simp -implicitDefEqProofs (maxSteps:=400000) (maxDischargeDepth:=6)) (by simp -implicitDefEqProofs (maxSteps:=400000) (maxDischargeDepth:=6) [entRow,opRow]) ?_
 obtain ⟨h1,h2⟩:=h
 cases c:e.join
 ·have ho:=h2 c
  have hl:=spellN_len ho
  have hb:=bytesN_len' 0
  have e1:plainN e=bytesN 0++spellN e.op:=by simp -implicitDefEqProofs (maxSteps:=400000) (maxDischargeDepth:=6) [plainN,c]
  have l1:(bytesN 0).length+(spellN e.op).length≤9223372036854775807:=by omega
  simp -implicitDefEqProofs (maxSteps:=400000) (maxDischargeDepth:=6) [s53,entRow,opRow,c,ho,l1,e1]
 ·obtain ⟨ho,ho'⟩:=h1 c
  have hb:=bytesN_len' 1
  have hl:=bytesN_len' e.nonce.toNat
  have e1:plainN e=bytesN 1++bytesN e.nonce.toNat:=by simp -implicitDefEqProofs (maxSteps:=400000) (maxDischargeDepth:=6) [plainN,c]
  have l1:(bytesN 1).length+(bytesN e.nonce.toNat).length≤9223372036854775807:=by omega
  simp -implicitDefEqProofs (maxSteps:=400000) (maxDischargeDepth:=6) [s53,entRow,opRow,c,ho,ho',l1,e1]
def FG4_h53:List AV→Option (Prop×AV):=t1 okF fun e:EntryV=>.c (.str (plainN e))
@[simp] theorem FG4_ap53 {l:List AV}:FG4_h53 l=(t1 okF fun e:EntryV=>.c (.str (plainN e))) l:=rfl
def FG4:CT:=(53,.pu FG4_h53)::FG3
theorem FG4_ok:CTok Tryz.prog FG4:=⟨tells1 fun e h=>refPlain_ev e h,FG3_ok⟩
@[simp] theorem FG4_get53:ctGet FG4 53=some (.pu FG4_h53):=rfl
@[simp] theorem FG4_skip {n:Nat} (h:(n==53)=false):ctGet FG4 n=ctGet FG3 n:=by
 simp only [Bool.or_eq_false_iff,beq_eq_false_iff_ne,ne_eq] at h
 simp [FG4,ctGet,h]
theorem plainN_len {e:EntryV} (h:okF e):(plainN e).length≤50000000:=by
 obtain ⟨h1,h2⟩:=h
 unfold plainN
 cases c:e.join
 ·have hl:=spellN_len (h2 c)
  have hb:=bytesN_len' 0
  simp -implicitDefEqProofs (maxSteps:=400000) (maxDischargeDepth:=6);omega
 ·have hb:=bytesN_len' 1
  have hl:=bytesN_len' e.nonce.toNat
  simp -implicitDefEqProofs (maxSteps:=400000) (maxDischargeDepth:=6);omega
def refBytesR (e:EntryV):List UInt8×Bool:=if 700<(plainN e).length then ([],false) else (padN (sealA (plainN e)),true)
def refBytesAV (e:EntryV):AV:=.t [(false,[.str (refBytesR e).1]),(false,[.raw (.bool (refBytesR e).2)])]
theorem refBytes_ev (e:EntryV) (h:okF e):PEv Tryz.prog 20 [Arg.enc e] (refBytesAV e):=by
 refine tells_of mixed FG4_ok Tryz.func20 sl20 ok20 (by kernel_rfl) (by simp -implicitDefEqProofs (maxSteps:=400000) (maxDischargeDepth:=6) [refBytesAV]) (by simp -implicitDefEqProofs (maxSteps:=400000) (maxDischargeDepth:=6) [entRow,opRow]) ?_
 have hl:=plainN_len h
 by_cases h7:700<(plainN e).length
 ·have h7':(700:Int)<(plainN e).length:=by omega
  have e2:refBytesR e=([],false):=by rw [refBytesR,if_pos h7]
  simp -implicitDefEqProofs (maxSteps:=400000) (maxDischargeDepth:=6) [s20,entRow,opRow,h,h7',refBytesAV,e2]
 ·have h7':¬(700:Int)<(plainN e).length:=by omega
  have e2:refBytesR e=(padN (sealA (plainN e)),true):=by rw [refBytesR,if_neg h7]
  have l2:(plainN e).length<4611686018427387904:=by omega
  have hs:(sealA (plainN e)).length≤800:=by
   have hb:=bytesN_len (plainN e).length
   have l1:(speltN (ofN (bytesN (plainN e).length++plainN e))).length=4:=rfl
   rw [sealA,if_neg h7]
   simp only [List.length_append]
   omega
  rw [show padN (sealA (plainN e))=sealA (plainN e)++List.replicate (padL (sealA (plainN e)).length) 0 from rfl] at e2
  obtain ⟨n,hn⟩:∃n,(sealA (plainN e)).length=n:=⟨_,rfl⟩
  rw [hn] at e2 hs
  have w1:IntKind.wrap .i64 ((n:Int)+32)=(n:Int)+32:=by rw [wrap64_id]<;>omega
  have w2:IntKind.wrap .i64 ((n:Int)+32-1)=(n:Int)+31:=by rw [wrap64_id]<;>omega
  have d1:((n:Int)+31).tdiv 32=(((n+31)/32:Nat):Int):=by rw [Int.tdiv_eq_ediv_of_nonneg (by omega)];omega
  obtain ⟨q,hq,hq2⟩:∃q,(n+31)/32=q∧padL n=q*32-n∧n≤q*32∧q≤100:=⟨_,rfl,by unfold padL;omega,by omega,by omega⟩
  obtain ⟨hq2,hq3,hq4⟩:=hq2
  rw [hq] at d1
  have w3:IntKind.wrap .i64 (q:Int)=q:=by rw [wrap64_id]<;>omega
  have w4:IntKind.wrap .i64 ((q:Int)*32)=(q:Int)*32:=by rw [wrap64_id]<;>omega
  have w5:IntKind.wrap .i64 ((q:Int)*32-n)=((padL n:Nat):Int):=by rw [wrap64_id]<;>omega
  have hp:padL n≤100:=by unfold padL;omega
  have hp':padL n≤1000000:=by omega
  simp -implicitDefEqProofs (maxSteps:=400000) (maxDischargeDepth:=6) [s20,entRow,opRow,h,h7',refBytesAV,e2,l2,hn,w1,w2,w3,w4,w5,d1,hp']
  omega
def storeBytesAV (e:EntryV):AV:=if entMayB e=true then framedAV e else .t [(false,[.str []]),(false,[.raw (.int .i64 1)])]
theorem storeBytes_ev (e:EntryV) (h1:e.op.text.length<1000000) (h2:e.op.gone.length<1000000):PEv Tryz.prog 18 [Arg.enc e] (storeBytesAV e):=by
 have ho:okO e.op:=⟨by omega,by omega⟩
 unfold storeBytesAV
 cases c:entMayB e
 ·refine tells_of mixed FE3_ok Tryz.func18 sl18 ok18 (by kernel_rfl) (by simp -implicitDefEqProofs (maxSteps:=400000) (maxDischargeDepth:=6)) (by simp -implicitDefEqProofs (maxSteps:=400000) (maxDischargeDepth:=6) [entRow,opRow]) ?_
  simp -implicitDefEqProofs (maxSteps:=400000) (maxDischargeDepth:=6) [s18,entRow,opRow,ho,c]
 ·refine tells_of mixed FE3_ok Tryz.func18 sl18 ok18 (by kernel_rfl) (by simp -implicitDefEqProofs (maxSteps:=400000) (maxDischargeDepth:=6) [framedAV]) (by simp -implicitDefEqProofs (maxSteps:=400000) (maxDischargeDepth:=6) [entRow,opRow]) ?_
  have hf:=entMayB_ok c h1 h2
  simp -implicitDefEqProofs (maxSteps:=400000) (maxDischargeDepth:=6) [s18,entRow,opRow,ho,c,hf,framedAV]
def FG5_h20:List AV→Option (Prop×AV):=t1 okF fun e:EntryV=>refBytesAV e
@[simp] theorem FG5_ap20 {l:List AV}:FG5_h20 l=(t1 okF fun e:EntryV=>refBytesAV e) l:=rfl
def FG5_h18:List AV→Option (Prop×AV):=t1 (fun e=>e.op.text.length<1000000∧e.op.gone.length<1000000) fun e:EntryV=>storeBytesAV e
@[simp] theorem FG5_ap18 {l:List AV}:FG5_h18 l=(t1 (fun e=>e.op.text.length<1000000∧e.op.gone.length<1000000) fun e:EntryV=>storeBytesAV e) l:=rfl
def FG5_h16:List AV→Option (Prop×AV):=t0 (.c (.raw (.bool true)))
@[simp] theorem FG5_ap16 {l:List AV}:FG5_h16 l=(t0 (.c (.raw (.bool true)))) l:=rfl
def FG5:CT:=(20,.pu FG5_h20)::(18,.pu FG5_h18)::(16,.pu FG5_h16)::FG4
theorem FG5_ok:CTok Tryz.prog FG5:=⟨tells1 fun e h=>refBytes_ev e h,
 tells1 fun e h=>storeBytes_ev e h.1 h.2,
 tells0 wakes15_ev,FG4_ok⟩
@[simp] theorem FG5_get20:ctGet FG5 20=some (.pu FG5_h20):=rfl
@[simp] theorem FG5_get18:ctGet FG5 18=some (.pu FG5_h18):=rfl
@[simp] theorem FG5_get16:ctGet FG5 16=some (.pu FG5_h16):=rfl
@[simp] theorem FG5_skip {n:Nat} (h:(n==20||n==18||n==16)=false):ctGet FG5 n=ctGet FG4 n:=by
 simp only [Bool.or_eq_false_iff,beq_eq_false_iff_ne,ne_eq] at h
 simp [FG5,ctGet,h]
end Go.AE
set_option linter.unusedVariables false
set_option linter.unusedSimpArgs false
namespace Go.AE
open Go
theorem seq_c {P:Program} {F:CT} {x y:SC} {Q:AEx→St→Prop} {st:St} (R:St→Prop) (h1:∀R':St→Prop,(∀s,R s→R' s)→awpS P F x (fun e st'=>e=.normal∧R' st') st) (h2:∀st',R st'→awpS P F y Q st'):awpS P F (.seq x y) Q st:=by
 show awpS P F x (athen (awpS P F y Q) Q) st
 exact awpS_mono (fun e st' ⟨he,hr⟩=>by subst he;exact h2 _ hr) (h1 R fun _ h=>h)
theorem seq_e {P:Program} {F:CT} {x y:SC} {Q:AEx→St→Prop} {st:St} (id:Nat) (R:St→Prop) (h1:∀R':St→Prop,(∀s,R s→R' s)→awpS P F x (fun e st'=>e=.exit id∧R' st') st) (h2:∀st',R st'→Q (.exit id) st'):awpS P F (.seq x y) Q st:=by
 show awpS P F x (athen (awpS P F y Q) Q) st
 exact awpS_mono (fun e st' ⟨he,hr⟩=>by subst he;exact h2 _ hr) (h1 R fun _ h=>h)
theorem seq_r {P:Program} {F:CT} {x y:SC} {Q:AEx→St→Prop} {st:St} (R:St→Prop) (h1:∀R':St→Prop,(∀s,R s→R' s)→awpS P F x (fun e st'=>e=.ret∧R' st') st) (h2:∀st',R st'→Q .ret st'):awpS P F (.seq x y) Q st:=by
 show awpS P F x (athen (awpS P F y Q) Q) st
 exact awpS_mono (fun e st' ⟨he,hr⟩=>by subst he;exact h2 _ hr) (h1 R fun _ h=>h)
theorem loop_c {P:Program} {F:CT} {x:SC} {Q:AEx→St→Prop} {st:St} (I:Nat→St→Prop) (n0:Nat) (h0:I n0 st)
  (h:∀n st',I n st'→∀J:Nat→St→Prop,(∀m s,I m s→J m s)→awpS P F x (athen (fun st''=>∃m,m<n∧J m st'') Q) st'):awpS P F (.loop x) Q st:=
 loop_n I n0 h0 fun n st' hi=>h n st' hi I fun _ _ h=>h
theorem extH_tr {H0 H1 H2:Heap} {T0 T1 T2:Nat} (h:ExtH [] H0 T0 H1 T1) (h':ExtH [] H1 T1 H2 T2):ExtH [] H0 T0 H2 T2:=by
 refine ⟨fun i hi hn=>?_,h'.2.1,Nat.le_trans h.2.2.1 h'.2.2.1,h.2.2.2⟩
 have e1:=h.1 i hi hn
 rw [h'.1 i (by rw [e1];exact hi) hn,e1]
theorem gtF (N:Nat) {t:Nat} (h:t<N) (d:Nat) (hd:N≤d):(t=d)=False:=by simp;omega
end Go.AE
set_option linter.unusedVariables false
set_option linter.unusedSimpArgs false
set_option maxHeartbeats 4000000
set_option maxRecDepth 100000
namespace Go.AE
open Go Go.Proofs
theorem bytesF_short:∀(k i n:Nat),0<i→n<128^i→(bytesF k n).length≤i
 |0,i,n,hi,hn=>by simp -implicitDefEqProofs (maxSteps:=400000) (maxDischargeDepth:=6) [bytesF];omega
 |k+1,i,n,hi,hn=>by
  by_cases h:n<128
  ·rw [bytesF_last h];simp -implicitDefEqProofs (maxSteps:=400000) (maxDischargeDepth:=6);omega
  ·rw [bytesF_step (by omega)]
   cases i with
   |zero=>omega
   |succ i=>
    have:0<i:=by
     rcases Nat.eq_zero_or_pos i with h0|h0
     ·subst h0;simp -implicitDefEqProofs (maxSteps:=400000) (maxDischargeDepth:=6) at hn;omega
     ·exact h0
    have:=bytesF_short k i (n/128) this (by rw [Nat.pow_succ] at hn;omega)
    simp -implicitDefEqProofs (maxSteps:=400000) (maxDischargeDepth:=6);omega
def ReadP (s:List UInt8) (i acc:Nat):Prop:=∀m,(0<m∨i=0)→bytesF 9 (acc+128^i*m)=s.take i++bytesF (9-i) m
theorem readP_0 (s:List UInt8):ReadP s 0 0:=fun m _=>by simp -implicitDefEqProofs (maxSteps:=400000) (maxDischargeDepth:=6)
theorem readP_step {s:List UInt8} {i acc x:Nat} (h:ReadP s i acc) (hi:i<s.length) (h9:i<8) (hx:s[i].toNat%128=x) (hge:128≤s[i].toNat):ReadP s (i+1) (acc+x*128^i):=fun m hm=>by
 have hm:0<m:=by rcases hm with h|h<;>omega
 have h1:=h (x+128*m) (.inl (by omega))
 have e1:acc+x*128^i+128^(i+1)*m=acc+128^i*(x+128*m):=by
  rw [Nat.pow_succ,Nat.mul_add,Nat.mul_assoc,Nat.mul_comm x]
  omega
 have hb:=s[i].toNat_lt
 rw [e1,h1,show 9-i=(9-(i+1))+1 by omega,bytesF_step (by omega),show (x+128*m)/128=m by omega,show (x+128*m)%128+128=s[i].toNat by omega,
  ←List.take_append_getElem hi]
 simp only [List.append_assoc,List.singleton_append]
 rw [show UInt8.ofNat s[i].toNat=s[i] from UInt8.ofNat_toNat]
theorem readP_end {s:List UInt8} {i acc x:Nat} (h:ReadP s i acc) (hi:i<s.length) (h9:i≤8) (hx:s[i].toNat=x) (hlt:x<128) (hacc:acc<128^i):(bytesN (acc+x*128^i)=s.take (i+1))↔¬(1<128^i∧x=0):=by
 constructor
 ·rintro h1 ⟨h2,rfl⟩
  have h3:0<i:=by
   rcases Nat.eq_zero_or_pos i with h0|h0
   ·subst h0;simp -implicitDefEqProofs (maxSteps:=400000) (maxDischargeDepth:=6) at h2
   ·exact h0
  have:=bytesF_short 9 i acc h3 hacc
  have h4:(bytesN (acc+0*128^i)).length=i+1:=by rw [h1];simp -implicitDefEqProofs (maxSteps:=400000) (maxDischargeDepth:=6);omega
  rw [show acc+0*128^i=acc by omega] at h4
  unfold bytesN at h4
  omega
 ·intro h1
  have h2:=h x (by
   rcases Nat.eq_zero_or_pos i with h0|h0
   ·exact .inr h0
   ·have:=Nat.one_lt_pow (a:=128) (n:=i) (by omega) (by omega)
    left
    rcases Nat.eq_zero_or_pos x with hx0|hx0
    ·exact absurd ⟨this,hx0⟩ h1
    ·exact hx0)
  rw [Nat.mul_comm] at h2
  rw [bytesN,h2,bytesF_last hlt,←List.take_append_getElem hi,←hx]
  simp -implicitDefEqProofs (maxSteps:=400000) (maxDischargeDepth:=6)
def refTakeAV (s:List UInt8):AV:=match takeN s with
 |some (n,r)=>.t [(false,[.raw (.int .i64 n)]),(false,[.str r]),(false,[.raw (.bool true)])]
 |none=>.t [(false,[.raw (.int .i64 0)]),(false,[.str []]),(false,[.raw (.bool false)])]
def RefTakeI (s:List UInt8) (q:Nat) (st:St):Prop:=∃(i acc:Nat),i≤min s.length 5∧q=5-i∧acc<128^i∧st.s 0=.c (.str s)∧st.s 5=.c (.raw (.int .i64 acc))∧st.s 6=.c (.raw (.int .i64 i))∧
 takeF (5-i) (128^i) acc (s.drop i)=takeN s∧ReadP s i acc∧Fresh st.H st.T
theorem refTake_ev (s:List UInt8) (hs:s.length<4611686018427387904):PEv Tryz.prog 92 [.c (.str s)] (refTakeAV s):=by
 refine tells_of mixed FG5_ok Tryz.func92 sl92 ok92 (by kernel_rfl) (by unfold refTakeAV;split<;>simp -implicitDefEqProofs (maxSteps:=400000) (maxDischargeDepth:=6)) (by simp -implicitDefEqProofs (maxSteps:=400000) (maxDischargeDepth:=6)) ?_
 simp -implicitDefEqProofs (maxSteps:=400000) (maxDischargeDepth:=6) [s92]
 refine loop_c (RefTakeI s) 5 ⟨0,0,by omega,rfl,by simp -implicitDefEqProofs (maxSteps:=400000) (maxDischargeDepth:=6),by simp -implicitDefEqProofs (maxSteps:=400000) (maxDischargeDepth:=6),by simp -implicitDefEqProofs (maxSteps:=400000) (maxDischargeDepth:=6),by simp -implicitDefEqProofs (maxSteps:=400000) (maxDischargeDepth:=6),rfl,readP_0 s,by simp -implicitDefEqProofs (maxSteps:=400000) (maxDischargeDepth:=6);exact fresh_no.mono (by omega)⟩ ?_
 rintro q st ⟨i,acc,hi,rfl,hacc,k0,k5,k6,hT,hR,hf⟩ J hJ
 have hfu:∀k d,st.T≤k→st.H (k,d)=.unborn:=hf
 by_cases hlt:i<min s.length 5
 ·have hlt2:i<s.length:=by omega
  have hlt5:(i:Int)<5:=by omega
  have hlt':((i:Int)<s.length):=by omega
  have hk:5-i=(4-i)+1:=by omega
  rw [hk,take_at hlt2] at hT
  have hb:=s[i].toNat_lt
  obtain ⟨x,hx,hx2⟩:∃x:Nat,s[i].toNat%128=x∧x<128:=⟨_,rfl,by omega⟩
  have c1:=bts_at s i hlt2
  have c2:=and127 s[i]
  have hRs:=readP_step hR hlt2 (by omega) hx
  have hRe:=fun h=>readP_end (x:=x) hR hlt2 (by omega) h hx2 hacc
  rw [hx] at c2 hT
  have c3:IntKind.wrap .i64 (x:Int)=x:=by rw [wrap64_id]<;>omega
  have c4:IntKind.wrap .i64 (7*(i:Int))=7*(i:Int):=by rw [wrap64_id]<;>omega
  have h7:(128:Nat)^i=2^(7*i):=by rw [show (128:Nat)=2^7 from rfl,←Nat.pow_mul]
  have hmin2:min (7*(i:Int)).toNat (IntKind.bits .i64)=7*i:=by
   have:IntKind.bits .i64=64:=rfl
   omega
  have hp:128^i≤128^4:=Nat.pow_le_pow_right (by omega) (by omega)
  have h4:(128:Nat)^4=268435456:=by decide
  have hxi:x*128^i≤127*268435456:=Nat.mul_le_mul (by omega) (by omega)
  have c5:=or_add hacc (i:=i) (by omega) hx2
  have c6:IntKind.wrap .i64 ((x:Int)*2^(7*i))=((x*128^i:Nat):Int):=by
   rw [h7]
   have:((x:Int)*2^(7*i))=((x*2^(7*i):Nat):Int):=by push_cast;rfl
   rw [this,←h7]
   exact wrap64_id (by omega) (by omega)
  have e2:IntKind.wrap .i64 ((i:Int)+1)=((i+1:Nat):Int):=by rw [wrap64_id]<;>omega
  have hnew:acc+x*128^i<128^(i+1):=by
   rw [Nat.pow_succ]
   have:x*128^i≤127*128^i:=Nat.mul_le_mul_right _ (by omega)
   omega
  obtain ⟨y,hy⟩:∃y,x*128^i=y:=⟨_,rfl⟩
  rw [hy] at c5 c6 hT hxi hRs hRe hnew
  obtain ⟨z,hz⟩:∃z,acc+y=z:=⟨_,rfl⟩
  rw [hz] at c5 hT hRs hRe hnew
  have hz63:z<9223372036854775808:=by omega
  by_cases hge:128≤s[i].toNat
  ·have hge':¬(s[i].toNat:Int)<128:=by omega
   rw [if_pos hge] at hT
   simp -implicitDefEqProofs (maxSteps:=400000) (maxDischargeDepth:=6) [s92L0,k0,k5,k6,hlt5,hlt',hlt2,hfu,c1,c2,c3,c4,hmin2,c5,c6,e2,hge']
   refine ⟨by omega,5-(i+1),by omega,hJ _ _ ⟨i+1,z,by omega,rfl,hnew,by simp -implicitDefEqProofs (maxSteps:=400000) (maxDischargeDepth:=6) [k0],by simp -implicitDefEqProofs (maxSteps:=400000) (maxDischargeDepth:=6),by simp -implicitDefEqProofs (maxSteps:=400000) (maxDischargeDepth:=6),?_,hRs hge,by simp -implicitDefEqProofs (maxSteps:=400000) (maxDischargeDepth:=6);exact hf.mono (by omega)⟩⟩
   rw [show 5-(i+1)=4-i by omega,Nat.pow_succ]
   exact hT
  ·have hge':(s[i].toNat:Int)<128:=by omega
   rw [if_neg hge] at hT
   have hxs:s[i].toNat=x:=by omega
   have hRe:=hRe hxs
   have hl1:((i+1:Nat):Int)≤s.length:=by omega
   have ht:List.take (i+1) s=s.take (i+1):=rfl
   by_cases hbig:268435456<z
   ·have hbig':(268435456:Int)<z:=by omega
    rw [if_pos (.inl hbig)] at hT
    simp -implicitDefEqProofs (maxSteps:=400000) (maxDischargeDepth:=6) [s92L0,k0,k5,k6,hlt5,hlt',hlt2,hfu,c1,c2,c3,c4,hmin2,c5,c6,e2,hge',hbig']
    refine ⟨by omega,?_⟩
    simp -implicitDefEqProofs (maxSteps:=400000) (maxDischargeDepth:=6) [refTakeAV,←hT]
   ·have hbig':¬(268435456:Int)<z:=by omega
    cases hc:decide (bytesN z=s.take (i+1))
    ·have hn:=(not_congr hRe).1 (of_decide_eq_false hc)
     rw [Decidable.not_not] at hn
     rw [if_pos (.inr ⟨hn.1,by omega⟩)] at hT
     simp -implicitDefEqProofs (maxSteps:=400000) (maxDischargeDepth:=6) [s92L0,k0,k5,k6,hlt5,hlt',hlt2,hfu,c1,c2,c3,c4,hmin2,c5,c6,e2,hge',hbig',hz63,hc]
     refine ⟨by omega,by omega,⟨by omega,by omega⟩,?_⟩
     simp -implicitDefEqProofs (maxSteps:=400000) (maxDischargeDepth:=6) [refTakeAV,←hT]
    ·have hn:=hRe.1 (of_decide_eq_true hc)
     rw [if_neg (by rintro (h|⟨h1,h2⟩);exact hbig h;exact hn ⟨h1,by omega⟩)] at hT
     simp -implicitDefEqProofs (maxSteps:=400000) (maxDischargeDepth:=6) [s92L0,k0,k5,k6,hlt5,hlt',hlt2,hfu,c1,c2,c3,c4,hmin2,c5,c6,e2,hge',hbig',hz63,hc]
     refine ⟨by omega,by omega,⟨by omega,by omega⟩,?_⟩
     simp -implicitDefEqProofs (maxSteps:=400000) (maxDischargeDepth:=6) [refTakeAV,←hT]
 ·have hi2:i=min s.length 5:=by omega
  have hn:none=takeN s:=by
   rw [←hT]
   by_cases h5:s.length<5
   ·rw [List.drop_eq_nil_of_le (by omega),show 5-i=(4-i)+1 by omega,takeF]
   ·rw [show 5-i=0 by omega,takeF]
  have hr:refTakeAV s=.t [(false,[.raw (.int .i64 0)]),(false,[.str []]),(false,[.raw (.bool false)])]:=by rw [refTakeAV,←hn]
  by_cases h5:i<5
  ·have h5':(i:Int)<5:=by omega
   have hlt':¬(i:Int)<s.length:=by omega
   simp -implicitDefEqProofs (maxSteps:=400000) (maxDischargeDepth:=6) [s92L0,k0,k5,k6,h5',hlt',hr]
  ·have h5':¬(i:Int)<5:=by omega
   simp -implicitDefEqProofs (maxSteps:=400000) (maxDischargeDepth:=6) [s92L0,k0,k5,k6,h5',hr]
end Go.AE
set_option linter.unusedVariables false
set_option linter.unusedSimpArgs false
set_option maxHeartbeats 4000000
set_option maxRecDepth 100000
namespace Go.AE
open Go Go.Proofs
def FH0_h92:List AV→Option (Prop×AV):=t1 (fun s=>s.length<4611686018427387904) fun s:List UInt8=>refTakeAV s
@[simp] theorem FH0_ap92 {l:List AV}:FH0_h92 l=(t1 (fun s=>s.length<4611686018427387904) fun s:List UInt8=>refTakeAV s) l:=rfl
def FH0:CT:=(92,.pu FH0_h92)::FG5
theorem FH0_ok:CTok Tryz.prog FH0:=⟨tells1 fun s h=>refTake_ev s h,FG5_ok⟩
@[simp] theorem FH0_get92:ctGet FH0 92=some (.pu FH0_h92):=rfl
@[simp] theorem FH0_skip {n:Nat} (h:(n==92)=false):ctGet FH0 n=ctGet FG5 n:=by
 simp only [Bool.or_eq_false_iff,beq_eq_false_iff_ne,ne_eq] at h
 simp [FH0,ctGet,h]
theorem refTakeAV_some {s r:List UInt8} {n:Nat} (h:takeN s=some (n,r)):refTakeAV s=.t [(false,[.raw (.int .i64 n)]),(false,[.str r]),(false,[.raw (.bool true)])]:=by rw [refTakeAV,h]
theorem refTakeAV_none {s:List UInt8} (h:takeN s=none):refTakeAV s=.t [(false,[.raw (.int .i64 0)]),(false,[.str []]),(false,[.raw (.bool false)])]:=by rw [refTakeAV,h]
def refTakeTextAV (s:List UInt8):AV:=.t [(false,[.str (takeTextR s).1]),(false,[.str (takeTextR s).2.1]),(false,[.raw (.bool (decide ((takeTextR s).2.2=0)))])]
theorem refTakeText_ev (s:List UInt8) (hs:s.length<4611686018427387904):PEv Tryz.prog 142 [.c (.str s)] (refTakeTextAV s):=by
 refine tells_of mixed FH0_ok Tryz.func142 sl142 ok142 (by kernel_rfl) (by simp -implicitDefEqProofs (maxSteps:=400000) (maxDischargeDepth:=6) [refTakeTextAV]) (by simp -implicitDefEqProofs (maxSteps:=400000) (maxDischargeDepth:=6)) ?_
 cases hn:takeN s with
 |none=>
  simp -implicitDefEqProofs (maxSteps:=400000) (maxDischargeDepth:=6) [s142,hs,refTakeAV_none hn]
  simp -implicitDefEqProofs (maxSteps:=400000) (maxDischargeDepth:=6) [refTakeTextAV,takeTextR,hn]
 |some q=>
  obtain ⟨n,r⟩:=q
  obtain ⟨h1,h2⟩:=takeN_len hn
  by_cases hl:n≤r.length
  ·have hl':¬(r.length:Int)<n:=by omega
   simp -implicitDefEqProofs (maxSteps:=400000) (maxDischargeDepth:=6) [s142,hs,refTakeAV_some hn,hl,hl']
   simp -implicitDefEqProofs (maxSteps:=400000) (maxDischargeDepth:=6) [refTakeTextAV,takeTextR,hn,hl]
  ·have hl':(r.length:Int)<n:=by omega
   simp -implicitDefEqProofs (maxSteps:=400000) (maxDischargeDepth:=6) [s142,hs,refTakeAV_some hn,hl,hl']
   simp -implicitDefEqProofs (maxSteps:=400000) (maxDischargeDepth:=6) [refTakeTextAV,takeTextR,hn,hl]
theorem refUnframe_ev (s:List UInt8) (hs:s.length<4611686018427387904):PEv Tryz.prog 91 [.c (.str s)] (sealTAV s):=by
 refine tells_of mixed FH0_ok Tryz.func91 sl91 ok91 (by kernel_rfl) (by unfold sealTAV;split<;>simp -implicitDefEqProofs (maxSteps:=400000) (maxDischargeDepth:=6)) (by simp -implicitDefEqProofs (maxSteps:=400000) (maxDischargeDepth:=6)) ?_
 cases hn:takeN s with
 |none=>
  simp -implicitDefEqProofs (maxSteps:=400000) (maxDischargeDepth:=6) [s91,hs,refTakeAV_none hn]
  simp -implicitDefEqProofs (maxSteps:=400000) (maxDischargeDepth:=6) [sealTAV,sealT,hn]
 |some q=>
  obtain ⟨n,r⟩:=q
  obtain ⟨h1,h2⟩:=takeN_len hn
  have hsp:=takeN_sp hn
  have hsl:s.length=(bytesN n).length+r.length:=by rw [hsp,List.length_append]
  by_cases h7:700<n
  ·have h7':(700:Int)<n:=by omega
   simp -implicitDefEqProofs (maxSteps:=400000) (maxDischargeDepth:=6) [s91,hs,refTakeAV_some hn,h7']
   simp -implicitDefEqProofs (maxSteps:=400000) (maxDischargeDepth:=6) [sealTAV,sealT,hn,h7]
  ·have h7':¬(700:Int)<n:=by omega
   have e1:IntKind.wrap .i64 (4+(n:Int))=((4+n:Nat):Int):=by rw [wrap64_id]<;>omega
   by_cases h8:r.length<n+4
   ·have h8':(r.length:Int)<((4+n:Nat):Int):=by omega
    obtain ⟨b,hb⟩:∃b,4+n=b:=⟨_,rfl⟩
    rw [hb] at e1 h8'
    simp -implicitDefEqProofs (maxSteps:=400000) (maxDischargeDepth:=6) [s91,hs,refTakeAV_some hn,h7',e1,h8']
    simp -implicitDefEqProofs (maxSteps:=400000) (maxDischargeDepth:=6) [sealTAV,sealT,hn,h7,h8]
   ·have h8':¬(r.length:Int)<((4+n:Nat):Int):=by omega
    have hT:sealT s=if r.take 4=speltN (ofN (bytesN n++(r.take (4+n)).drop 4)) then some ((r.take (4+n)).drop 4,r.drop (4+n)) else none:=by
     rw [sealT,hn]
     simp only
     rw [if_neg (by omega)]
     have:s.take (s.length-r.length)=bytesN n:=by
      rw [hsl,show (bytesN n).length+r.length-r.length=(bytesN n).length by omega,hsp]
      simp -implicitDefEqProofs (maxSteps:=400000) (maxDischargeDepth:=6)
     rw [this]
    obtain ⟨b,hb⟩:∃b,4+n=b:=⟨_,rfl⟩
    rw [hb] at e1 h8' hT
    have e5:b≤r.length:=by omega
    have e6:4≤b:=by omega
    have htl:((r.take b).drop 4).length=n:=by simp -implicitDefEqProofs (maxSteps:=400000) (maxDischargeDepth:=6);omega
    have htk:r.take b=r.take 4++(r.take b).drop 4:=by
     have h:=(List.take_append_drop 4 (r.take b)).symm
     rwa [List.take_take,Nat.min_eq_left e6] at h
    generalize ht:(r.take b).drop 4=t at *
    have hf:sealA t=bytesN n++speltN (ofN (bytesN n++t))++t:=by rw [sealA,if_neg (by omega),htl]
    have l1:(speltN (ofN (bytesN n++t))).length=4:=rfl
    have hfl:(sealA t).length=(bytesN n).length+b:=by rw [hf];simp only [List.length_append];omega
    have hst:s.take (sealA t).length=bytesN n++r.take b:=by
     rw [hfl,hsp,List.take_append,List.take_of_length_le (by omega),Nat.add_sub_cancel_left]
    have hiff:(s.take (sealA t).length=sealA t)↔r.take 4=speltN (ofN (bytesN n++t)):=by
     rw [hst,hf,htk,List.append_assoc,List.append_cancel_left_eq,List.append_cancel_right_eq]
    have k1:t.length<4611686018427387904:=by omega
    have k2:(sealA t).length≤s.length:=by omega
    have k3:(4:Int)≤b:=by omega
    have k4:(b:Int)≤r.length:=by omega
    cases hc:decide (s.take (sealA t).length=sealA t)
    ·have hc':=(not_congr hiff).1 (of_decide_eq_false hc)
     rw [if_neg hc'] at hT
     simp -implicitDefEqProofs (maxSteps:=400000) (maxDischargeDepth:=6) [s91,hs,refTakeAV_some hn,h7',e1,h8',ht,e5,e6,k1,k2,k3,k4,hc]
     simp -implicitDefEqProofs (maxSteps:=400000) (maxDischargeDepth:=6) [sealTAV,hT]
    ·have hc':=hiff.1 (of_decide_eq_true hc)
     rw [if_pos hc'] at hT
     simp -implicitDefEqProofs (maxSteps:=400000) (maxDischargeDepth:=6) [s91,hs,refTakeAV_some hn,h7',e1,h8',ht,e5,e6,k1,k2,k3,k4,hc]
     simp -implicitDefEqProofs (maxSteps:=400000) (maxDischargeDepth:=6) [sealTAV,hT]
def FH1_h142:List AV→Option (Prop×AV):=t1 (fun s=>s.length<4611686018427387904) fun s:List UInt8=>refTakeTextAV s
@[simp] theorem FH1_ap142 {l:List AV}:FH1_h142 l=(t1 (fun s=>s.length<4611686018427387904) fun s:List UInt8=>refTakeTextAV s) l:=rfl
def FH1_h91:List AV→Option (Prop×AV):=t1 (fun s=>s.length<4611686018427387904) fun s:List UInt8=>sealTAV s
@[simp] theorem FH1_ap91 {l:List AV}:FH1_h91 l=(t1 (fun s=>s.length<4611686018427387904) fun s:List UInt8=>sealTAV s) l:=rfl
def FH1:CT:=(142,.pu FH1_h142)::(91,.pu FH1_h91)::FH0
theorem FH1_ok:CTok Tryz.prog FH1:=⟨tells1 fun s h=>refTakeText_ev s h,
 tells1 fun s h=>refUnframe_ev s h,FH0_ok⟩
@[simp] theorem FH1_get142:ctGet FH1 142=some (.pu FH1_h142):=rfl
@[simp] theorem FH1_get91:ctGet FH1 91=some (.pu FH1_h91):=rfl
@[simp] theorem FH1_skip {n:Nat} (h:(n==142||n==91)=false):ctGet FH1 n=ctGet FH0 n:=by
 simp only [Bool.or_eq_false_iff,beq_eq_false_iff_ne,ne_eq] at h
 simp [FH1,ctGet,h]
end Go.AE
namespace Go.AE
open Go Go.Proofs Go.Shelf
def lays197_ren:Go.Shelf.Ren:=⟨fun|197=>85|260=>115|n=>n,fun|9=>9|21=>21|3=>3|4=>4|5=>5|105=>130|119=>172|0=>0|46=>120|139=>175|138=>174|n=>n,fun|3=>0|4=>1|n=>n⟩
theorem lays197:Lays.n197 Tryz.prog lays197_ren where
 mixed:=by kernel_rfl
 f197:=Tryz.func85.trans (congrArg some (by kernel_rfl))
 f260:=Tryz.func115.trans (congrArg some (by kernel_rfl))
 t0:=Tryz.underlying0
 a0:=Tryz.isAgg0
 z0:=Tryz.sizeOf0
 v0:=Tryz.zeroValue0
 t3:=Tryz.underlying3
 a3:=Tryz.isAgg3
 z3:=Tryz.sizeOf3
 v3:=Tryz.zeroValue3
 t4:=Tryz.underlying4
 a4:=Tryz.isAgg4
 z4:=Tryz.sizeOf4
 v4:=Tryz.zeroValue4
 t5:=Tryz.underlying5
 a5:=Tryz.isAgg5
 z5:=Tryz.sizeOf5
 v5:=Tryz.zeroValue5
 t9:=Tryz.underlying9
 a9:=Tryz.isAgg9
 z9:=Tryz.sizeOf9
 v9:=Tryz.zeroValue9
 t21:=Tryz.underlying21
 a21:=Tryz.isAgg21
 z21:=Tryz.sizeOf21
 v21:=Tryz.zeroValue21
 t46:=Tryz.underlying120
 a46:=Tryz.isAgg120
 z46:=Tryz.sizeOf120
 v46:=Tryz.zeroValue120
 t105:=Tryz.underlying130
 a105:=Tryz.isAgg130
 z105:=Tryz.sizeOf130
 v105:=Tryz.zeroValue130
 t119:=Tryz.underlying172
 a119:=Tryz.isAgg172
 z119:=Tryz.sizeOf172
 t138:=Tryz.underlying174
 a138:=Tryz.isAgg174
 z138:=Tryz.sizeOf174
 v138:=Tryz.zeroValue174
 t139:=Tryz.underlying175
 a139:=Tryz.isAgg175
 z139:=Tryz.sizeOf175
 v139:=Tryz.zeroValue175
 g3:=by kernel_rfl
 g4:=by kernel_rfl
end Go.AE
set_option linter.unusedVariables false
set_option linter.unusedSimpArgs false
set_option maxHeartbeats 4000000
set_option maxRecDepth 100000
namespace Go.AE
open Go Go.Proofs
def beginB (e:ElemV):Bool:=decide (e=⟨0,0,0⟩)
theorem beginB_def (e:ElemV):decide (e=⟨0,0,0⟩)=beginB e:=rfl
theorem begin_ev (e:ElemV):PEv Tryz.prog 46 [Arg.enc e] (.c (.raw (.bool (beginB e)))):=by
 refine tells_of mixed (F:=[]) trivial Tryz.func46 sl46 ok46 (by kernel_rfl) (by simp -implicitDefEqProofs (maxSteps:=400000) (maxDischargeDepth:=6)) (by simp -implicitDefEqProofs (maxSteps:=400000) (maxDischargeDepth:=6)) ?_
 simp -implicitDefEqProofs (maxSteps:=400000) (maxDischargeDepth:=6) [s46]
 rw [beginB]
 exact elem0 e
theorem refRune_ev (r:Int):PEv Tryz.prog 86 [.c (.raw (.int .i32 r))] (.c (.raw (.bool (runeB r)))):=by
 refine tells_of mixed (F:=[]) trivial Tryz.func86 sl86 ok86 (by kernel_rfl) (by simp -implicitDefEqProofs (maxSteps:=400000) (maxDischargeDepth:=6)) (by simp -implicitDefEqProofs (maxSteps:=400000) (maxDischargeDepth:=6)) ?_
 by_cases h1:r=10
 ·subst h1
  simp -implicitDefEqProofs (maxSteps:=400000) (maxDischargeDepth:=6) [s86,runeB]
 ·by_cases h2:32≤r
  ·by_cases h3:r≤55295
   ·by_cases h4:r=127
    ·subst h4
     simp -implicitDefEqProofs (maxSteps:=400000) (maxDischargeDepth:=6) [s86,runeB]
    ·simp -implicitDefEqProofs (maxSteps:=400000) (maxDischargeDepth:=6) [s86,runeB,h1,h2,h3,h4]
     omega
   ·by_cases h4:57344≤r
    ·by_cases h5:r≤1114111
     ·by_cases h6:r=65533
      ·subst h6
       simp -implicitDefEqProofs (maxSteps:=400000) (maxDischargeDepth:=6) [s86,runeB]
      ·simp -implicitDefEqProofs (maxSteps:=400000) (maxDischargeDepth:=6) [s86,runeB,h1,h2,h3,h4,h5,h6]
       omega
     ·simp -implicitDefEqProofs (maxSteps:=400000) (maxDischargeDepth:=6) [s86,runeB,h1,h2,h3,h4,h5]
    ·simp -implicitDefEqProofs (maxSteps:=400000) (maxDischargeDepth:=6) [s86,runeB,h1,h2,h3,h4]
  ·have h4:¬57344≤r:=by omega
   simp -implicitDefEqProofs (maxSteps:=400000) (maxDischargeDepth:=6) [s86,runeB,h1,h2,h4]
theorem refOwn_ev (o:OpV) (e:ElemV):PEv Tryz.prog 49 [Arg.enc o,Arg.enc e] (.c (.raw (.bool (ownB o e)))):=by
 refine tells_of mixed (F:=[]) trivial Tryz.func49 sl49 ok49 (by kernel_rfl) (by simp -implicitDefEqProofs (maxSteps:=400000) (maxDischargeDepth:=6)) (by simp -implicitDefEqProofs (maxSteps:=400000) (maxDischargeDepth:=6) [opRow]) ?_
 cases h:decide (e.site=o.site)
 ·simp -implicitDefEqProofs (maxSteps:=400000) (maxDischargeDepth:=6) [s49,opRow,ownB,h]
 ·simp -implicitDefEqProofs (maxSteps:=400000) (maxDischargeDepth:=6) [s49,opRow,ownB,h]
theorem refLess_ev (a b:ElemV):PEv Tryz.prog 50 [Arg.enc a,Arg.enc b] (.c (.raw (.bool (lessB a b)))):=by
 refine tells_of mixed (F:=[]) trivial Tryz.func50 sl50 ok50 (by kernel_rfl) (by simp -implicitDefEqProofs (maxSteps:=400000) (maxDischargeDepth:=6)) (by simp -implicitDefEqProofs (maxSteps:=400000) (maxDischargeDepth:=6)) ?_
 have hl:lessB a b=if a.site=b.site then (if a.seq=b.seq then decide (a.i<b.i) else decide (a.seq<b.seq)) else decide (a.site<b.site):=by
  simp only [lessB,compareE,orI,cmpI]
  repeat' split
  all_goals first
   |(simp_all;done)
   |(simp_all;omega)
 cases h1:decide (a.site=b.site)
 ·have h1':=of_decide_eq_false h1
  rw [hl,if_neg h1']
  simp -implicitDefEqProofs (maxSteps:=400000) (maxDischargeDepth:=6) [s50,h1]
 ·have h1':=of_decide_eq_true h1
  rw [hl,if_pos h1']
  cases h2:decide (a.seq=b.seq)
  ·have h2':=of_decide_eq_false h2
   rw [if_neg h2']
   simp -implicitDefEqProofs (maxSteps:=400000) (maxDischargeDepth:=6) [s50,h1,h2]
  ·have h2':=of_decide_eq_true h2
   rw [if_pos h2']
   simp -implicitDefEqProofs (maxSteps:=400000) (maxDischargeDepth:=6) [s50,h1,h2]
end Go.AE
set_option linter.unusedVariables false
set_option linter.unusedSimpArgs false
set_option maxHeartbeats 4000000
set_option maxRecDepth 100000
namespace Go.AE
open Go Go.Proofs
structure Rn where
 n:Int
 deriving DecidableEq
instance encRn:Enc Rn where
 w:=1
 row b:=[.raw (.int .i32 b.n)]
 dec|[.raw (.int .i32 n)]=>some ⟨n⟩|_=>none
 dec_row a:=rfl
 row_dec {r a} h:=by split at h<;>simp_all;subst h;rfl
 len _:=rfl
 old a c hc:=by simp -implicitDefEqProofs (maxSteps:=400000) (maxDischargeDepth:=6) at hc;subst hc;exact .raw _
 ret a c hc:=by simp -implicitDefEqProofs (maxSteps:=400000) (maxDischargeDepth:=6) at hc;subst hc;exact .raw _
@[simp] theorem row_Rn (b:Rn):Enc.row b=[AC.raw (.int .i32 b.n)]:=rfl
@[simp] theorem w_Rn:Enc.w Rn=1:=rfl
instance argRn:Arg Rn where
 enc w:=.c (.raw (.int .i32 w.n))
 dec|.c (.raw (.int .i32 n))=>some ⟨n⟩|_=>none
 dec_some {x a} h:=by split at h<;>simp_all;subst h;rfl
@[simp] theorem enc_Rn (w:Rn):Arg.enc w=.c (.raw (.int .i32 w.n)):=rfl
@[simp] theorem dec_Rn (n:Int):(Arg.dec (.c (.raw (.int .i32 n))):Option Rn)=some ⟨n⟩:=rfl
def decAt (s:List UInt8) (i:Nat):Nat×Nat:=Utf8.decode ⟨s.toArray⟩ i
def runesG (s:List UInt8):Nat→Nat→Option (List Rn)
 |0,_=>some []
 |f+1,i=>if i<s.length then (if runeB ((decAt s i).1:Int)=true then (runesG s f (i+(decAt s i).2)).map (⟨((decAt s i).1:Int)⟩::·) else none) else some []
def runesL (s:List UInt8):Option (List Rn):=runesG s s.length 0
theorem runesG_spec (s:List UInt8):∀f i,match runesG s f i with
  |some l=>Lib.idxFuncFrom (fun r=>!runeB (r:Int)) true ⟨s.toArray⟩ f i=-1∧Lib.runeCountFrom ⟨s.toArray⟩ f i=l.length
  |none=>0≤Lib.idxFuncFrom (fun r=>!runeB (r:Int)) true ⟨s.toArray⟩ f i
 |0,i=>by simp -implicitDefEqProofs (maxSteps:=400000) (maxDischargeDepth:=6) [runesG,Lib.idxFuncFrom,Lib.runeCountFrom]
 |f+1,i=>by
  have ih:=runesG_spec s f (i+(decAt s i).2)
  have hsz:(⟨s.toArray⟩:ByteArray).size=s.length:=by simp -implicitDefEqProofs (maxSteps:=400000) (maxDischargeDepth:=6) [ByteArray.size]
  unfold runesG Lib.idxFuncFrom Lib.runeCountFrom
  rw [hsz]
  by_cases h:i<s.length
  ·rw [if_pos h,if_pos h,if_pos h]
   change (match (if runeB ((decAt s i).1:Int)=true then (runesG s f (i+(decAt s i).2)).map (⟨((decAt s i).1:Int)⟩::·) else none) with
    |some l=>(if (!runeB ((decAt s i).1:Int))=true then (i:Int) else Lib.idxFuncFrom (fun r=>!runeB (r:Int)) true ⟨s.toArray⟩ f (i+(decAt s i).2))=-1∧1+Lib.runeCountFrom ⟨s.toArray⟩ f (i+(decAt s i).2)=l.length
    |none=>0≤(if (!runeB ((decAt s i).1:Int))=true then (i:Int) else Lib.idxFuncFrom (fun r=>!runeB (r:Int)) true ⟨s.toArray⟩ f (i+(decAt s i).2)))
   cases hb:runeB ((decAt s i).1:Int)
   ·simp -implicitDefEqProofs (maxSteps:=400000) (maxDischargeDepth:=6)
   ·simp only [if_true,Bool.not_true,Bool.false_eq_true,if_false]
    cases hr:runesG s f (i+(decAt s i).2) with
    |none=>rw [hr] at ih;simpa using ih
    |some l=>rw [hr] at ih;simp -implicitDefEqProofs (maxSteps:=400000) (maxDischargeDepth:=6) at ih ⊢;omega
  ·simp -implicitDefEqProofs (maxSteps:=400000) (maxDischargeDepth:=6) [if_neg h]
theorem runesL_text (s:List UInt8):textB s=(runesL s).isSome:=by
 have h:=runesG_spec s s.length 0
 have hsz:(⟨s.toArray⟩:ByteArray).size=s.length:=by simp -implicitDefEqProofs (maxSteps:=400000) (maxDischargeDepth:=6) [ByteArray.size]
 unfold textB Lib.idxFunc runesL
 rw [hsz]
 cases hr:runesG s s.length 0 with
 |none=>rw [hr] at h;simpa using h
 |some l=>rw [hr] at h;simp -implicitDefEqProofs (maxSteps:=400000) (maxDischargeDepth:=6);omega
theorem runesL_len {s:List UInt8} {l:List Rn} (h:runesL s=some l):runesN s=l.length:=by
 have h':=runesG_spec s s.length 0
 have hsz:(⟨s.toArray⟩:ByteArray).size=s.length:=by simp -implicitDefEqProofs (maxSteps:=400000) (maxDischargeDepth:=6) [ByteArray.size]
 unfold runesL at h
 rw [h] at h'
 unfold runesN Lib.runeCount
 rw [hsz]
 exact h'.2
theorem tabs_ok {w:World} (h:Inv Tryz.prog w):Lib.Utf8Tabs (lays197_ren.g 3) (lays197_ren.g 4) w:=by
 obtain ⟨h1,h2⟩:=h (lays197_ren.g 3) (lays197_ren.g 4) (by kernel_rfl) (by kernel_rfl)
 have e:∀c,(Lib.firstT c:Int)=tabF c:=fun c=>by
  unfold Lib.firstT tabF
  repeat' split
  all_goals first|rfl|omega
 have e2:∀c,(Lib.accLo c:Int)=tabLo c:=fun c=>by
  unfold Lib.accLo tabLo
  repeat' split
  all_goals rfl
 have e3:∀c,(Lib.accHi c:Int)=tabHi c:=fun c=>by
  unfold Lib.accHi tabHi
  repeat' split
  all_goals rfl
 exact ⟨fun c hc=>by rw [e];exact h1 c hc,fun i hi=>by rw [e2,e3];exact h2 i hi⟩
def decodeAV (s:List UInt8):AV:=.t [(false,[.raw (.int .i32 ((Lib.decodeGo ⟨s.toArray⟩).1:Int))]),(false,[.raw (.int .i64 ((Lib.decodeGo ⟨s.toArray⟩).2:Int))])]
theorem pev_two {P:Program} {f:FuncId} {args:List AV} {u v:Value} (hok:okCall P f=true) (ha:∀x∈args,∀c∈x.flat,VOK c)
  (h:∀(w:World) (hI:Inv P w) (F:Tag→Nat→Prop) (vs:Array Value),vs.size=args.length→(∀(k:Nat) x,args[k]?=some x→RelV w F noHeap noLies x (vs.getD k undef))→
   Calls P f vs w fun e w'=>e=.returned (.tuple #[u,v])∧RowKit.Below w.heap.size w w'):PEv P f args (.t [(false,[.raw u]),(false,[.raw v])]):=by
 refine ⟨⟨hok,by simp -implicitDefEqProofs (maxSteps:=400000) (maxDischargeDepth:=6) [AV.flat],ha⟩,fun w hI G vs hsz hargs nm inj=>?_⟩
 refine (h w hI _ vs hsz hargs).mono ?_
 rintro e w' ⟨rfl,hb⟩
 refine ⟨_,rfl,noLies,⟨hb,(fun id e sz f rows hid=>by cases hid),(fun id id' e sz rows e' sz' f' rows' b c s c' s' hid=>by cases hid),⟨0,fun _ _ _=>rfl⟩⟩,?_⟩
 refine .t _ _ rfl fun k b cs hk=>?_
 match k,hk with
 |0,hk=>simp -implicitDefEqProofs (maxSteps:=400000) (maxDischargeDepth:=6) [adT,adL,adC] at hk;obtain ⟨rfl,rfl⟩:=hk;exact .c _ _ (.raw _)
 |1,hk=>simp -implicitDefEqProofs (maxSteps:=400000) (maxDischargeDepth:=6) [adT,adL,adC] at hk;obtain ⟨rfl,rfl⟩:=hk;exact .c _ _ (.raw _)
theorem decode_ev (s:List UInt8):PEv Tryz.prog 85 [.c (.str s)] (decodeAV s):=by
 refine pev_two (by kernel_rfl) (by simp -implicitDefEqProofs (maxSteps:=400000) (maxDischargeDepth:=6)) fun w hI F vs hs' hr=>?_
 have h0:=relC_str (relV_c (hr 0 _ rfl))
 rw [vs1 hs' h0]
 exact Any.utf8_DecodeRuneInString lays197 ⟨s.toArray⟩ w (tabs_ok hI)
theorem decode_at (s:List UInt8) (i:Nat) (h:i<s.length):Lib.decodeGo ⟨(s.drop i).toArray⟩=decAt s i:=by
 have hsz:(⟨s.toArray⟩:ByteArray).size=s.length:=by simp -implicitDefEqProofs (maxSteps:=400000) (maxDischargeDepth:=6) [ByteArray.size]
 have he:(⟨(s.drop i).toArray⟩:ByteArray)=(⟨s.toArray⟩:ByteArray).extract i (⟨s.toArray⟩:ByteArray).size:=by
  apply ByteArray.ext
  apply Array.ext'
  rw [Lib.extract_data,hsz]
  simp -implicitDefEqProofs (maxSteps:=400000) (maxDischargeDepth:=6)
  exact (List.take_of_length_le (by simp -implicitDefEqProofs (maxSteps:=400000) (maxDischargeDepth:=6))).symm
 rw [he,Lib.decodeGo,if_neg (by rw [Lib.tail_size,hsz];omega),Lib.tail_decode]
 rfl
theorem decAt_le4 (s:List UInt8) (i:Nat):(decAt s i).2≤4:=by
 unfold decAt
 rw [Lib.decode_at]
 exact Lib.decodeN_le4 _ _ _ _ _
theorem decAt_pos (s:List UInt8) (i:Nat) (h:i<s.length):1≤(decAt s i).2:=Lib.decode_width_pos _ _ (by simpa [ByteArray.size] using h)
def FH2_h85:List AV→Option (Prop×AV):=t1 (fun _=>True) fun s:List UInt8=>decodeAV s
@[simp] theorem FH2_ap85 {l:List AV}:FH2_h85 l=(t1 (fun _=>True) fun s:List UInt8=>decodeAV s) l:=rfl
def FH2_h86:List AV→Option (Prop×AV):=t1 (fun _=>True) fun r:Rn=>.c (.raw (.bool (runeB r.n)))
@[simp] theorem FH2_ap86 {l:List AV}:FH2_h86 l=(t1 (fun _=>True) fun r:Rn=>.c (.raw (.bool (runeB r.n)))) l:=rfl
def FH2:CT:=(85,.pu FH2_h85)::(86,.pu FH2_h86)::FH1
theorem FH2_ok:CTok Tryz.prog FH2:=⟨tells1 fun s _=>decode_ev s,
 tells1 fun r _=>refRune_ev r.n,FH1_ok⟩
@[simp] theorem FH2_get85:ctGet FH2 85=some (.pu FH2_h85):=rfl
@[simp] theorem FH2_get86:ctGet FH2 86=some (.pu FH2_h86):=rfl
@[simp] theorem FH2_skip {n:Nat} (h:(n==85||n==86)=false):ctGet FH2 n=ctGet FH1 n:=by
 simp only [Bool.or_eq_false_iff,beq_eq_false_iff_ne,ne_eq] at h
 simp [FH2,ctGet,h]
def refRunesAV (s:List UInt8):AV:=match runesL s with
 |some l=>.t [(false,[.nw 21 1 (rowsE l)]),(false,[.raw (.bool true)])]
 |none=>.t [(false,[.nw 21 1 []]),(false,[.raw (.bool false)])]
def RunesI (s:List UInt8) (q:Nat) (st:St):Prop:=∃(i f:Nat) (L:List Rn) (c:AC),q=f∧f+L.length=s.length∧(i<s.length→L.length≤i)∧i≤s.length+4∧st.s 0=.c (.str s)∧st.s 4=.c c∧st.s 5=.c (.raw (.int .i64 i))∧
 OwnL st.H 21 1 0 c L∧(runesG s f i).map (L++·)=runesL s∧Fresh st.H st.T
theorem refRunes_ev (s:List UInt8) (hs:s.length<1000000):PEv Tryz.prog 47 [.c (.str s)] (refRunesAV s):=by
 refine tells_of mixed FH2_ok Tryz.func47 sl47 ok47 (by kernel_rfl) (by unfold refRunesAV;split<;>simp -implicitDefEqProofs (maxSteps:=400000) (maxDischargeDepth:=6) [RetC]) (by simp -implicitDefEqProofs (maxSteps:=400000) (maxDischargeDepth:=6)) ?_
 simp -implicitDefEqProofs (maxSteps:=400000) (maxDischargeDepth:=6) [s47]
 refine loop_c (RunesI s) s.length ⟨0,s.length,[],.raw (.slice none 0 0),rfl,by simp -implicitDefEqProofs (maxSteps:=400000) (maxDischargeDepth:=6),by simp -implicitDefEqProofs (maxSteps:=400000) (maxDischargeDepth:=6),by omega,by simp -implicitDefEqProofs (maxSteps:=400000) (maxDischargeDepth:=6),by simp -implicitDefEqProofs (maxSteps:=400000) (maxDischargeDepth:=6),by simp -implicitDefEqProofs (maxSteps:=400000) (maxDischargeDepth:=6),OwnL.nil,by simp -implicitDefEqProofs (maxSteps:=400000) (maxDischargeDepth:=6) [runesL],by simp -implicitDefEqProofs (maxSteps:=400000) (maxDischargeDepth:=6);exact fresh_no.mono (by omega)⟩ ?_
 rintro q st ⟨i,f,L,c,rfl,hf1,hf2,hi,k0,k4,k5,hc,hR,hf⟩ J hJ
 have hfu:∀k d,st.T≤k→st.H (k,d)=.unborn:=hf
 by_cases hlt:i<s.length
 ·have hlt':(i:Int)<s.length:=by omega
  have hL:=hf2 hlt
  obtain ⟨f',rfl⟩:∃f',q=f'+1:=⟨q-1,by omega⟩
  rw [runesG,if_pos hlt] at hR
  have hd:=decode_at s i hlt
  have hw4:=decAt_le4 s i
  have hw1:=decAt_pos s i hlt
  rcases hp:decAt s i with ⟨r,w⟩
  rw [hp] at hd hw4 hw1 hR
  simp only at hw4 hw1 hR
  have hdv:decodeAV (s.drop i)=.t [(false,[.raw (.int .i32 (r:Int))]),(false,[.raw (.int .i64 (w:Int))])]:=by rw [decodeAV,hd]
  have hw:IntKind.wrap .i64 ((i:Int)+w)=((i+w:Nat):Int):=by rw [wrap64_id]<;>omega
  have hil:(i:Int)≤s.length:=by omega
  have hil':i≤s.length:=by omega
  cases hb:runeB (r:Int)
  ·rw [hb] at hR
   simp -implicitDefEqProofs (maxSteps:=400000) (maxDischargeDepth:=6) at hR
   have hav:refRunesAV s=.t [(false,[.nw 21 1 []]),(false,[.raw (.bool false)])]:=by rw [refRunesAV,←hR]
   simp -implicitDefEqProofs (maxSteps:=400000) (maxDischargeDepth:=6) [s47L0,k0,k4,k5,hlt',hil,hil',hfu,hdv,hb,hav]
  ·rw [hb] at hR
   simp -implicitDefEqProofs (maxSteps:=400000) (maxDischargeDepth:=6) at hR
   have hR':Option.map (fun x=>(L++[⟨(r:Int)⟩])++x) (runesG s f' (i+w))=runesL s:=by rw [←hR];simp -implicitDefEqProofs (maxSteps:=400000) (maxDischargeDepth:=6) [Function.comp_def]
   have hlen:1+(L.length+1)≤s.length+1:=by omega
   rcases hc with ⟨rfl,rfl⟩|⟨id,rfl,hid0,hid⟩
   ·simp -implicitDefEqProofs (maxSteps:=400000) (maxDischargeDepth:=6) [s47L0,k0,k4,k5,hlt',hil,hil',hfu,hdv,hb,hw,Nat.le_add_right_of_le]
    refine ⟨f',by omega,hJ _ _ ⟨i+w,f',[⟨(r:Int)⟩],.so (st.T+3,25) 0 1,rfl,by simp -implicitDefEqProofs (maxSteps:=400000) (maxDischargeDepth:=6) at hf1 ⊢;omega,fun _=>by simp -implicitDefEqProofs (maxSteps:=400000) (maxDischargeDepth:=6);omega,by omega,by simp -implicitDefEqProofs (maxSteps:=400000) (maxDischargeDepth:=6) [k0],by simp -implicitDefEqProofs (maxSteps:=400000) (maxDischargeDepth:=6),by simp -implicitDefEqProofs (maxSteps:=400000) (maxDischargeDepth:=6),OwnL.so rfl (Nat.zero_le _) (by simp -implicitDefEqProofs (maxSteps:=400000) (maxDischargeDepth:=6);rfl),by simpa using hR',?_⟩⟩
    simp -implicitDefEqProofs (maxSteps:=400000) (maxDischargeDepth:=6)
    repeat' (first|exact hf.mono (by first|omega|(simp<;>omega))|(refine Fresh.set' ?_ (by first|omega|(simp<;>omega))))
   ·obtain ⟨f1,f2,f3⟩:=hf.arr hid
    simp -implicitDefEqProofs (maxSteps:=400000) (maxDischargeDepth:=6) [s47L0,k0,k4,k5,hlt',hil,hil',hfu,hdv,hb,hw,hid,f1,f2,Nat.le_add_right_of_le]
    refine ⟨by omega,f',by omega,hJ _ _ ⟨i+w,f',L++[⟨(r:Int)⟩],.so (st.T+3,25) 0 (L.length+1),rfl,by simp -implicitDefEqProofs (maxSteps:=400000) (maxDischargeDepth:=6);omega,fun _=>by simp -implicitDefEqProofs (maxSteps:=400000) (maxDischargeDepth:=6);omega,by omega,by simp -implicitDefEqProofs (maxSteps:=400000) (maxDischargeDepth:=6) [k0],by simp -implicitDefEqProofs (maxSteps:=400000) (maxDischargeDepth:=6),by simp -implicitDefEqProofs (maxSteps:=400000) (maxDischargeDepth:=6),OwnL.so (by simp -implicitDefEqProofs (maxSteps:=400000) (maxDischargeDepth:=6)) (Nat.zero_le _) (by simp -implicitDefEqProofs (maxSteps:=400000) (maxDischargeDepth:=6) [rowsE]),hR',?_⟩⟩
    simp -implicitDefEqProofs (maxSteps:=400000) (maxDischargeDepth:=6)
    repeat' (first|exact hf.mono (by first|omega|(simp<;>omega))|(refine Fresh.set' ?_ (by first|omega|(simp<;>omega))))
 ·have hlt':¬(i:Int)<s.length:=by omega
  have hg:runesG s q i=some []:=by
   cases q with
   |zero=>rfl
   |succ q=>rw [runesG,if_neg hlt]
  rw [hg] at hR
  simp -implicitDefEqProofs (maxSteps:=400000) (maxDischargeDepth:=6) at hR
  rcases hc with ⟨rfl,rfl⟩|⟨id,rfl,hid0,hid⟩
  ·have hav:refRunesAV s=.t [(false,[.nw 21 1 []]),(false,[.raw (.bool true)])]:=by rw [refRunesAV,←hR];rfl
   simp -implicitDefEqProofs (maxSteps:=400000) (maxDischargeDepth:=6) [s47L0,k0,k4,k5,hlt',hav]
  ·obtain ⟨f1,f2,f3⟩:=hf.arr hid
   have hav:refRunesAV s=.t [(false,[.nw 21 1 (rowsE L)]),(false,[.raw (.bool true)])]:=by rw [refRunesAV,←hR]
   simp -implicitDefEqProofs (maxSteps:=400000) (maxDischargeDepth:=6) [s47L0,k0,k4,k5,hlt',hid,f1,f2,hav]
end Go.AE
set_option linter.unusedVariables false
set_option linter.unusedSimpArgs false
set_option maxHeartbeats 4000000
set_option maxRecDepth 100000
namespace Go.AE
open Go Go.Proofs
def FH3_h46:List AV→Option (Prop×AV):=t1 (fun _=>True) fun e:ElemV=>.c (.raw (.bool (beginB e)))
@[simp] theorem FH3_ap46 {l:List AV}:FH3_h46 l=(t1 (fun _=>True) fun e:ElemV=>.c (.raw (.bool (beginB e)))) l:=rfl
def FH3_h49:List AV→Option (Prop×AV):=t2 (fun _ _=>True) fun (o:OpV) (e:ElemV)=>.c (.raw (.bool (ownB o e)))
@[simp] theorem FH3_ap49 {l:List AV}:FH3_h49 l=(t2 (fun _ _=>True) fun (o:OpV) (e:ElemV)=>.c (.raw (.bool (ownB o e)))) l:=rfl
def FH3_h50:List AV→Option (Prop×AV):=t2 (fun _ _=>True) fun a b:ElemV=>.c (.raw (.bool (lessB a b)))
@[simp] theorem FH3_ap50 {l:List AV}:FH3_h50 l=(t2 (fun _ _=>True) fun a b:ElemV=>.c (.raw (.bool (lessB a b)))) l:=rfl
def FH3_h47:List AV→Option (Prop×AV):=t1 (fun s=>s.length<1000000) fun s:List UInt8=>refRunesAV s
@[simp] theorem FH3_ap47 {l:List AV}:FH3_h47 l=(t1 (fun s=>s.length<1000000) fun s:List UInt8=>refRunesAV s) l:=rfl
def FH3:CT:=(46,.pu FH3_h46)::(49,.pu FH3_h49)::(50,.pu FH3_h50)::(47,.pu FH3_h47)::FH2
theorem FH3_ok:CTok Tryz.prog FH3:=⟨tells1 fun e _=>begin_ev e,
 tells2 fun o e _=>refOwn_ev o e,
 tells2 fun a b _=>refLess_ev a b,
 tells1 fun s h=>refRunes_ev s h,FH2_ok⟩
@[simp] theorem FH3_get46:ctGet FH3 46=some (.pu FH3_h46):=rfl
@[simp] theorem FH3_get49:ctGet FH3 49=some (.pu FH3_h49):=rfl
@[simp] theorem FH3_get50:ctGet FH3 50=some (.pu FH3_h50):=rfl
@[simp] theorem FH3_get47:ctGet FH3 47=some (.pu FH3_h47):=rfl
@[simp] theorem FH3_skip {n:Nat} (h:(n==46||n==49||n==50||n==47)=false):ctGet FH3 n=ctGet FH2 n:=by
 simp only [Bool.or_eq_false_iff,beq_eq_false_iff_ne,ne_eq] at h
 simp [FH3,ctGet,h]
theorem refName_ev (a b:Int):PEv Tryz.prog 44 [.c (.raw (.int .i64 a)),.c (.raw (.int .i64 b))] (.c (.raw (.bool (nameB a b)))):=by
 refine tells_of mixed FH3_ok Tryz.func44 sl44 ok44 (by kernel_rfl) (by simp -implicitDefEqProofs (maxSteps:=400000) (maxDischargeDepth:=6)) (by simp -implicitDefEqProofs (maxSteps:=400000) (maxDischargeDepth:=6)) ?_
 have e:nameB a b=((decide (1≤a)&&decide (a≤8))&&(decide (1≤b)&&decide (b≤268435456))):=by simp -implicitDefEqProofs (maxSteps:=400000) (maxDischargeDepth:=6) [nameB]
 cases c1:decide (1≤a)
 ·simp -implicitDefEqProofs (maxSteps:=400000) (maxDischargeDepth:=6) [s44,e,c1]
 cases c2:decide (a≤8)
 ·simp -implicitDefEqProofs (maxSteps:=400000) (maxDischargeDepth:=6) [s44,e,c1,c2]
 ·simp -implicitDefEqProofs (maxSteps:=400000) (maxDischargeDepth:=6) [s44,e,c1,c2]
def FH4_h44:List AV→Option (Prop×AV):=t2 (fun _ _=>True) fun a b:Int=>.c (.raw (.bool (nameB a b)))
@[simp] theorem FH4_ap44 {l:List AV}:FH4_h44 l=(t2 (fun _ _=>True) fun a b:Int=>.c (.raw (.bool (nameB a b)))) l:=rfl
def FH4:CT:=(44,.pu FH4_h44)::FH3
theorem FH4_ok:CTok Tryz.prog FH4:=⟨tells2 fun a b _=>refName_ev a b,FH3_ok⟩
@[simp] theorem FH4_get44:ctGet FH4 44=some (.pu FH4_h44):=rfl
@[simp] theorem FH4_skip {n:Nat} (h:(n==44)=false):ctGet FH4 n=ctGet FH3 n:=by
 simp only [Bool.or_eq_false_iff,beq_eq_false_iff_ne,ne_eq] at h
 simp [FH4,ctGet,h]
theorem refElem4_ev (e:ElemV):PEv Tryz.prog 48 [Arg.enc e] (.c (.raw (.bool (elemB e)))):=by
 refine tells_of mixed FH4_ok Tryz.func48 sl48 ok48 (by kernel_rfl) (by simp -implicitDefEqProofs (maxSteps:=400000) (maxDischargeDepth:=6)) (by simp -implicitDefEqProofs (maxSteps:=400000) (maxDischargeDepth:=6)) ?_
 have h12:decide (e.i<12)=decide (e.i≤11):=by
  by_cases h:e.i<12
  ·simp -implicitDefEqProofs (maxSteps:=400000) (maxDischargeDepth:=6) [h];omega
  ·simp -implicitDefEqProofs (maxSteps:=400000) (maxDischargeDepth:=6) [h];omega
 have he:elemB e=(beginB e||(nameB e.site e.seq&&decide (0≤e.i)&&decide (e.i≤11))):=by rw [elemB,h12,beginB]
 cases c1:beginB e
 rotate_left
 ·simp -implicitDefEqProofs (maxSteps:=400000) (maxDischargeDepth:=6) [s48,he,c1]
 cases c2:nameB e.site e.seq
 ·simp -implicitDefEqProofs (maxSteps:=400000) (maxDischargeDepth:=6) [s48,he,c1,c2]
 ·simp -implicitDefEqProofs (maxSteps:=400000) (maxDischargeDepth:=6) [s48,he,c1,c2]
def FH5_h48:List AV→Option (Prop×AV):=t1 (fun _=>True) fun e:ElemV=>.c (.raw (.bool (elemB e)))
@[simp] theorem FH5_ap48 {l:List AV}:FH5_h48 l=(t1 (fun _=>True) fun e:ElemV=>.c (.raw (.bool (elemB e)))) l:=rfl
def FH5:CT:=(48,.pu FH5_h48)::FH4
theorem FH5_ok:CTok Tryz.prog FH5:=⟨tells1 fun e _=>refElem4_ev e,FH4_ok⟩
@[simp] theorem FH5_get48:ctGet FH5 48=some (.pu FH5_h48):=rfl
@[simp] theorem FH5_skip {n:Nat} (h:(n==48)=false):ctGet FH5 n=ctGet FH4 n:=by
 simp only [Bool.or_eq_false_iff,beq_eq_false_iff_ne,ne_eq] at h
 simp [FH5,ctGet,h]
def RefGoneI (o:OpV) (q:Nat) (st:St):Prop:=∃i:Nat,i≤o.gone.length∧q=o.gone.length-i∧st.s 1=.c (.pt (0,1) 0 0)∧st.s 5=.c (.raw (.int .i64 i))∧st.H (0,1)=.arr 46 11 false [opRow .brw o]∧Fresh st.H st.T∧
 goneG o (prevE o.gone i) (o.gone.drop i)=goneG o none o.gone
theorem refOp_l0 {Q:AEx→St→Prop} {st:St} (o:OpV) (hl:o.gone.length≤200) (k1:st.s 1=.c (.pt (0,1) 0 0)) (k5:st.s 5=.c (.raw (.int .i64 0))) (hH:st.H (0,1)=.arr 46 11 false [opRow .brw o]) (hf:Fresh st.H st.T)
  (hn:goneG o none o.gone=true→∀st',Q (.exit 0) st') (hr:goneG o none o.gone=false→∀st',st'.s 2=.c (.raw (.bool false))→Q .ret st') :
  awpS Tryz.prog FH5 (.loop s15L0) Q st:=by
 refine loop_c (RefGoneI o) o.gone.length ⟨0,by simp -implicitDefEqProofs (maxSteps:=400000) (maxDischargeDepth:=6) [prevE,k1,k5,hH,hf]⟩ ?_
 rintro n st ⟨i,hi,rfl,h1,h5,hH,hf,hp⟩ J hJ
 have hfu:∀k d,st.T≤k→st.H (k,d)=.unborn:=hf
 by_cases hlt:i<o.gone.length
 ·have hlt':(i:Int)<o.gone.length:=by omega
  have hw:IntKind.wrap .i64 ((i:Int)+1)=((i+1:Nat):Int):=by rw [wrap64_id]<;>omega
  rw [goneG_step o hlt,beginB_def] at hp
  refine seq_c (fun st'=>st'.s 1=.c (.pt (0,1) 0 0)∧st'.s 5=.c (.raw (.int .i64 i))∧st'.H (0,1)=.arr 46 11 false [opRow .brw o]∧Fresh st'.H st'.T) ?_ ?_
  ·intro R' hR
   simp -implicitDefEqProofs (maxSteps:=400000) (maxDischargeDepth:=6) [h1,h5,hH,opRow,hlt,hlt',hfu]
   exact hR _ ⟨by simp -implicitDefEqProofs (maxSteps:=400000) (maxDischargeDepth:=6) [h1],by simp -implicitDefEqProofs (maxSteps:=400000) (maxDischargeDepth:=6) [h5],by simpa [opRow] using hH,by simp -implicitDefEqProofs (maxSteps:=400000) (maxDischargeDepth:=6);exact hf.mono (by omega)⟩
  clear h1 h5 hH hf hfu
  rintro st' ⟨h1,h5,hH,hf⟩
  have hfu:∀k d,st'.T≤k→st'.H (k,d)=.unborn:=hf
  cases z:beginB o.gone[i]
  ·rw [z] at hp
   cases he:elemB o.gone[i]
   ·have hg:goneG o none o.gone=false:=by simp -implicitDefEqProofs (maxSteps:=400000) (maxDischargeDepth:=6) [←hp,he]
    simp -implicitDefEqProofs (maxSteps:=400000) (maxDischargeDepth:=6) [h1,h5,hH,opRow,hlt,hlt',hw,hfu,z,he]
    exact hr hg _ (by simp -implicitDefEqProofs (maxSteps:=400000) (maxDischargeDepth:=6))
   ·cases hw':ownB o o.gone[i]
    ·by_cases h0:i=0
     ·subst h0
      have hp':goneG o (prevE o.gone 1) (o.gone.drop 1)=goneG o none o.gone:=by rw [←hp];simp -implicitDefEqProofs (maxSteps:=400000) (maxDischargeDepth:=6) [he,hw',prevE]
      simp -implicitDefEqProofs (maxSteps:=400000) (maxDischargeDepth:=6) [h1,h5,hH,opRow,hlt,hlt',hw,hfu,z,he,hw']
      refine ⟨o.gone.length-1,by omega,hJ _ _ ⟨1,by omega,rfl,by simp -implicitDefEqProofs (maxSteps:=400000) (maxDischargeDepth:=6) [h1],by simp -implicitDefEqProofs (maxSteps:=400000) (maxDischargeDepth:=6);decide,by simpa [opRow] using hH,?_,hp'⟩⟩
      simp -implicitDefEqProofs (maxSteps:=400000) (maxDischargeDepth:=6)
      repeat' (first|exact hf.mono (by first|omega|(simp<;>omega))|(refine Fresh.set' ?_ (by first|omega|(simp<;>omega))))
     ·obtain ⟨j,hj⟩:∃j,j+1=i:=⟨i-1,by omega⟩
      have hjl:j<o.gone.length:=by omega
      have hpe:prevE o.gone i=some o.gone[j]:=by subst hj;simp -implicitDefEqProofs (maxSteps:=400000) (maxDischargeDepth:=6) [prevE,hjl]
      have hs:IntKind.wrap .i64 ((i:Int)-1)=(j:Int):=by rw [wrap64_id]<;>omega
      have hpos:0<i:=by omega
      cases hl':lessB o.gone[j] o.gone[i]
      ·have hg:goneG o none o.gone=false:=by simp -implicitDefEqProofs (maxSteps:=400000) (maxDischargeDepth:=6) [←hp,he,hpe,hl']
       simp -implicitDefEqProofs (maxSteps:=400000) (maxDischargeDepth:=6) [h1,h5,hH,opRow,hlt,hlt',hw,hfu,z,he,hw',hl',hs,hjl,hpos,h0]
       exact hr hg _ (by simp -implicitDefEqProofs (maxSteps:=400000) (maxDischargeDepth:=6))
      ·have hp':goneG o (prevE o.gone (i+1)) (o.gone.drop (i+1))=goneG o none o.gone:=by rw [←hp];simp -implicitDefEqProofs (maxSteps:=400000) (maxDischargeDepth:=6) [he,hw',hpe,hl']
       simp -implicitDefEqProofs (maxSteps:=400000) (maxDischargeDepth:=6) [h1,h5,hH,opRow,hlt,hlt',hw,hfu,z,he,hw',hl',hs,hjl,hpos,h0]
       refine ⟨o.gone.length-(i+1),by omega,hJ _ _ ⟨i+1,by omega,rfl,by simp -implicitDefEqProofs (maxSteps:=400000) (maxDischargeDepth:=6) [h1],by simp -implicitDefEqProofs (maxSteps:=400000) (maxDischargeDepth:=6),by simpa [opRow] using hH,?_,hp'⟩⟩
       simp -implicitDefEqProofs (maxSteps:=400000) (maxDischargeDepth:=6)
       repeat' (first|exact hf.mono (by first|omega|(simp<;>omega))|(refine Fresh.set' ?_ (by first|omega|(simp<;>omega))))
    ·have hg:goneG o none o.gone=false:=by simp -implicitDefEqProofs (maxSteps:=400000) (maxDischargeDepth:=6) [←hp,he,hw']
     simp -implicitDefEqProofs (maxSteps:=400000) (maxDischargeDepth:=6) [h1,h5,hH,opRow,hlt,hlt',hw,hfu,z,he,hw']
     exact hr hg _ (by simp -implicitDefEqProofs (maxSteps:=400000) (maxDischargeDepth:=6))
  ·rw [z] at hp
   have hg:goneG o none o.gone=false:=by simp -implicitDefEqProofs (maxSteps:=400000) (maxDischargeDepth:=6) [←hp]
   simp -implicitDefEqProofs (maxSteps:=400000) (maxDischargeDepth:=6) [h1,h5,hH,opRow,hlt,hlt',hw,hfu,z]
   exact hr hg _ (by simp -implicitDefEqProofs (maxSteps:=400000) (maxDischargeDepth:=6))
 ·have hlt':¬(i:Int)<o.gone.length:=by omega
  have hi2:i=o.gone.length:=by omega
  have hg:goneG o none o.gone=true:=by
   subst hi2
   simp -implicitDefEqProofs (maxSteps:=400000) (maxDischargeDepth:=6) at hp
   rw [←hp];cases prevE o.gone o.gone.length<;>rfl
  refine seq_e 0 (fun _=>True) ?_ fun st' _=>hn hg st'
  intro R' hR
  simp -implicitDefEqProofs (maxSteps:=400000) (maxDischargeDepth:=6) [h1,h5,hH,opRow,hlt,hlt']
  exact hR _ trivial
end Go.AE
set_option linter.unusedVariables false
set_option linter.unusedSimpArgs false
set_option maxHeartbeats 4000000
set_option maxRecDepth 100000
namespace Go.AE
open Go Go.Proofs
def OpAt (o:OpV) (st:St):Prop:=st.s 1=.c (.pt (0,1) 0 0)∧st.H (0,1)=.arr 46 11 false [opRow .brw o]∧Fresh st.H st.T
theorem runes_nil {s:List UInt8} {X:List Rn} (hX:runesL s=some X):decide (X=[])=decide (s=[]):=by
 cases s with
 |nil=>cases hX;rfl
 |cons b s=>
  cases X with
  |nil=>
   rw [runesL] at hX
   simp only [List.length_cons,runesG] at hX
   rw [if_pos (by simp -implicitDefEqProofs (maxSteps:=400000) (maxDischargeDepth:=6))] at hX
   split at hX
   ·simp -implicitDefEqProofs (maxSteps:=400000) (maxDischargeDepth:=6) at hX
   ·cases hX
  |cons x X=>simp -implicitDefEqProofs (maxSteps:=400000) (maxDischargeDepth:=6)
theorem toggleB_eq (o:OpV):toggleB o=(nameB o.of_ o.num&&(!decide (o.of_=o.site)||!decide (o.num=o.seq))&&decide (0≤o.gen)&&decide (o.gen≤268435456)&&beginB o.after&&decide (o.text=[])&&decide (o.gone=[])):=by
 have e1:(!decide (o.gen<0))=decide (0≤o.gen):=by by_cases h:o.gen<0<;>simp -implicitDefEqProofs (maxSteps:=400000) (maxDischargeDepth:=6) [h]<;>omega
 have e2:(!decide (268435456<o.gen))=decide (o.gen≤268435456):=by by_cases h:268435456<o.gen<;>simp -implicitDefEqProofs (maxSteps:=400000) (maxDischargeDepth:=6) [h]<;>omega
 rw [toggleB,e1,e2,beginB,Bool.not_and]
theorem mayB_edit {o:OpV} (c1:nameB o.site o.seq=true) (ck:¬o.kind=2):opMayB o=(decide (o.kind=1)&&decide (o.of_=0)&&decide (o.num=0)&&decide (o.gen=0)&&!decide (200<o.gone.length)&&!(decide (o.text=[])&&decide (o.gone=[]))&&
  textB o.text&&decide (runesN o.text≤12)&&elemB o.after&&!(decide (o.text=[])&&!beginB o.after)&&!ownB o o.after&&goneG o none o.gone):=by
 have e1:decide (o.gone.length≤200)=!decide (200<o.gone.length):=by by_cases h:o.gone.length≤200<;>simp -implicitDefEqProofs (maxSteps:=400000) (maxDischargeDepth:=6) [h]<;>omega
 have e2:decide (o.gone.length=0)=decide (o.gone=[]):=by cases o.gone<;>simp -implicitDefEqProofs (maxSteps:=400000) (maxDischargeDepth:=6)
 simp only [opMayB,c1,ck,Bool.true_and,decide_false,Bool.false_and]
 by_cases hk:o.kind=1
 ·simp only [hk,if_true,editB,goneB,e1,e2,beginB_def,decide_true,Bool.true_and]
  cases elemB o.after<;>cases ownB o o.after<;>cases textB o.text<;>cases goneG o none o.gone<;>cases decide (o.of_=0)<;>cases decide (o.num=0)<;>cases decide (o.gen=0)<;>cases decide (runesN o.text≤12)<;>cases decide (200<o.gone.length)<;>simp -implicitDefEqProofs (maxSteps:=400000) (maxDischargeDepth:=6) [Bool.and_comm]
 ·simp -implicitDefEqProofs (maxSteps:=400000) (maxDischargeDepth:=6) [hk]
theorem refOp4_ev (o:OpV) (h1:o.text.length<1000000) (h2:o.gone.length<4611686018427387904):PEv Tryz.prog 15 [Arg.enc o] (.c (.raw (.bool (opMayB o)))):=by
 refine tells_of mixed FH5_ok Tryz.func15 sl15 ok15 (by kernel_rfl) (by simp -implicitDefEqProofs (maxSteps:=400000) (maxDischargeDepth:=6)) (by simp -implicitDefEqProofs (maxSteps:=400000) (maxDischargeDepth:=6) [opRow]) ?_
 have hfin:∀st',st'.s 2=.c (.raw (.bool (opMayB o)))→finK Tryz.prog Tryz.f15 (.c (.raw (.bool (opMayB o)))) .ret st':=fun st' h=>by simp -implicitDefEqProofs (maxSteps:=400000) (maxDischargeDepth:=6) [h]
 have hno:opMayB o=false→∀st',st'.s 2=.c (.raw (.bool false))→finK Tryz.prog Tryz.f15 (.c (.raw (.bool (opMayB o)))) .ret st':=fun hm st' h=>hfin st' (by rw [h,hm])
 refine seq_c (OpAt o) ?_ ?_
 ·intro R' hR
  simp -implicitDefEqProofs (maxSteps:=400000) (maxDischargeDepth:=6) [opRow]
  exact hR _ ⟨by simp -implicitDefEqProofs (maxSteps:=400000) (maxDischargeDepth:=6),by simp -implicitDefEqProofs (maxSteps:=400000) (maxDischargeDepth:=6) [opRow],by simp -implicitDefEqProofs (maxSteps:=400000) (maxDischargeDepth:=6);(repeat' (first|exact fresh_no.mono (Nat.zero_le _)|(refine Fresh.set' ?_ (by simp))))⟩
 rintro st ⟨k1,hH,hf⟩
 have hfu:∀k d,st.T≤k→st.H (k,d)=.unborn:=hf
 cases c1:nameB o.site o.seq
 ·refine seq_r (fun st'=>st'.s 2=.c (.raw (.bool false))) ?_ (hno (by simp -implicitDefEqProofs (maxSteps:=400000) (maxDischargeDepth:=6) [opMayB,c1]))
  intro R' hR
  simp -implicitDefEqProofs (maxSteps:=400000) (maxDischargeDepth:=6) [k1,hH,opRow,c1]
  exact hR _ (by simp -implicitDefEqProofs (maxSteps:=400000) (maxDischargeDepth:=6))
 refine seq_c (OpAt o) ?_ ?_
 ·intro R' hR
  simp -implicitDefEqProofs (maxSteps:=400000) (maxDischargeDepth:=6) [k1,hH,opRow,c1]
  exact hR _ ⟨by simp -implicitDefEqProofs (maxSteps:=400000) (maxDischargeDepth:=6) [k1],by simpa [opRow] using hH,by simp -implicitDefEqProofs (maxSteps:=400000) (maxDischargeDepth:=6);exact hf.mono (by omega)⟩
 clear k1 hH hf hfu
 rintro st ⟨k1,hH,hf⟩
 have hfu:∀k d,st.T≤k→st.H (k,d)=.unborn:=hf
 cases ck:decide (o.kind=2)
 rotate_left
 ·have ck':o.kind=2:=of_decide_eq_true ck
  have hm:opMayB o=toggleB o:=by simp -implicitDefEqProofs (maxSteps:=400000) (maxDischargeDepth:=6) [opMayB,c1,ck']
  refine seq_r (fun st'=>st'.s 2=.c (.raw (.bool (toggleB o)))) ?_ fun st' h=>hfin st' (by rw [h,hm])
  intro R' hR
  have g1:=toggleB_eq o
  cases c2:nameB o.of_ o.num
  ·simp -implicitDefEqProofs (maxSteps:=400000) (maxDischargeDepth:=6) [k1,hH,opRow,ck,c2]
   exact hR _ (by simp -implicitDefEqProofs (maxSteps:=400000) (maxDischargeDepth:=6) [g1,c2])
  cases c3:(!decide (o.of_=o.site)||!decide (o.num=o.seq))
  ·have c3':=Bool.or_eq_false_iff.1 c3
   have c4:decide (o.of_=o.site)=true:=by simpa using c3'.1
   have c5:decide (o.num=o.seq)=true:=by simpa using c3'.2
   simp -implicitDefEqProofs (maxSteps:=400000) (maxDischargeDepth:=6) [k1,hH,opRow,ck,c2,c4,c5]
   exact hR _ (by simp -implicitDefEqProofs (maxSteps:=400000) (maxDischargeDepth:=6) [g1,c2,c4,c5])
  cases c6:decide (0≤o.gen)
  ·cases c4:decide (o.of_=o.site)
   ·simp -implicitDefEqProofs (maxSteps:=400000) (maxDischargeDepth:=6) [k1,hH,opRow,ck,c2,c4,c6]
    exact hR _ (by simp -implicitDefEqProofs (maxSteps:=400000) (maxDischargeDepth:=6) [g1,c6])
   ·have c5:decide (o.num=o.seq)=false:=by simpa [c4] using c3
    simp -implicitDefEqProofs (maxSteps:=400000) (maxDischargeDepth:=6) [k1,hH,opRow,ck,c2,c4,c5,c6]
    exact hR _ (by simp -implicitDefEqProofs (maxSteps:=400000) (maxDischargeDepth:=6) [g1,c6])
  cases c4:decide (o.of_=o.site)
  ·cases c7:decide (o.gen≤268435456)
   ·simp -implicitDefEqProofs (maxSteps:=400000) (maxDischargeDepth:=6) [k1,hH,opRow,ck,c2,c4,c6,c7]
    exact hR _ (by simp -implicitDefEqProofs (maxSteps:=400000) (maxDischargeDepth:=6) [g1,c7])
   cases c8:beginB o.after
   ·simp -implicitDefEqProofs (maxSteps:=400000) (maxDischargeDepth:=6) [k1,hH,opRow,ck,c2,c4,c6,c7,c8]
    exact hR _ (by simp -implicitDefEqProofs (maxSteps:=400000) (maxDischargeDepth:=6) [g1,c8])
   cases c9:decide (o.text=[])
   ·simp -implicitDefEqProofs (maxSteps:=400000) (maxDischargeDepth:=6) [k1,hH,opRow,ck,c2,c4,c6,c7,c8,c9]
    exact hR _ (by simp -implicitDefEqProofs (maxSteps:=400000) (maxDischargeDepth:=6) [g1,c9])
   ·simp -implicitDefEqProofs (maxSteps:=400000) (maxDischargeDepth:=6) [k1,hH,opRow,ck,c2,c4,c6,c7,c8,c9]
    exact hR _ (by simp -implicitDefEqProofs (maxSteps:=400000) (maxDischargeDepth:=6) [g1,c2,c4,c6,c7,c8,c9])
  ·have c5:decide (o.num=o.seq)=false:=by simpa [c4] using c3
   cases c7:decide (o.gen≤268435456)
   ·simp -implicitDefEqProofs (maxSteps:=400000) (maxDischargeDepth:=6) [k1,hH,opRow,ck,c2,c4,c5,c6,c7]
    exact hR _ (by simp -implicitDefEqProofs (maxSteps:=400000) (maxDischargeDepth:=6) [g1,c7])
   cases c8:beginB o.after
   ·simp -implicitDefEqProofs (maxSteps:=400000) (maxDischargeDepth:=6) [k1,hH,opRow,ck,c2,c4,c5,c6,c7,c8]
    exact hR _ (by simp -implicitDefEqProofs (maxSteps:=400000) (maxDischargeDepth:=6) [g1,c8])
   cases c9:decide (o.text=[])
   ·simp -implicitDefEqProofs (maxSteps:=400000) (maxDischargeDepth:=6) [k1,hH,opRow,ck,c2,c4,c5,c6,c7,c8,c9]
    exact hR _ (by simp -implicitDefEqProofs (maxSteps:=400000) (maxDischargeDepth:=6) [g1,c9])
   ·simp -implicitDefEqProofs (maxSteps:=400000) (maxDischargeDepth:=6) [k1,hH,opRow,ck,c2,c4,c5,c6,c7,c8,c9]
    exact hR _ (by simp -implicitDefEqProofs (maxSteps:=400000) (maxDischargeDepth:=6) [g1,c2,c4,c5,c6,c7,c8,c9])
 have ck':¬o.kind=2:=of_decide_eq_false ck
 have hm:=mayB_edit c1 ck'
 refine seq_c (OpAt o) ?_ ?_
 ·intro R' hR
  simp -implicitDefEqProofs (maxSteps:=400000) (maxDischargeDepth:=6) [k1,hH,opRow,ck]
  exact hR _ ⟨by simp -implicitDefEqProofs (maxSteps:=400000) (maxDischargeDepth:=6) [k1],by simpa [opRow] using hH,by simp -implicitDefEqProofs (maxSteps:=400000) (maxDischargeDepth:=6);exact hf.mono (by omega)⟩
 clear k1 hH hf hfu
 rintro st ⟨k1,hH,hf⟩
 have hfu:∀k d,st.T≤k→st.H (k,d)=.unborn:=hf
 cases d2:decide (o.kind=1)
 ·refine seq_r (fun st'=>st'.s 2=.c (.raw (.bool false))) ?_ (hno (by simp -implicitDefEqProofs (maxSteps:=400000) (maxDischargeDepth:=6) [hm,d2]))
  intro R' hR
  simp -implicitDefEqProofs (maxSteps:=400000) (maxDischargeDepth:=6) [k1,hH,opRow,d2]
  exact hR _ (by simp -implicitDefEqProofs (maxSteps:=400000) (maxDischargeDepth:=6))
 cases d3:decide (o.of_=0)
 ·refine seq_r (fun st'=>st'.s 2=.c (.raw (.bool false))) ?_ (hno (by simp -implicitDefEqProofs (maxSteps:=400000) (maxDischargeDepth:=6) [hm,d3]))
  intro R' hR
  simp -implicitDefEqProofs (maxSteps:=400000) (maxDischargeDepth:=6) [k1,hH,opRow,d2,d3]
  exact hR _ (by simp -implicitDefEqProofs (maxSteps:=400000) (maxDischargeDepth:=6))
 cases d4:decide (o.num=0)
 ·refine seq_r (fun st'=>st'.s 2=.c (.raw (.bool false))) ?_ (hno (by simp -implicitDefEqProofs (maxSteps:=400000) (maxDischargeDepth:=6) [hm,d4]))
  intro R' hR
  simp -implicitDefEqProofs (maxSteps:=400000) (maxDischargeDepth:=6) [k1,hH,opRow,d2,d3,d4]
  exact hR _ (by simp -implicitDefEqProofs (maxSteps:=400000) (maxDischargeDepth:=6))
 cases d5:decide (o.gen=0)
 ·refine seq_r (fun st'=>st'.s 2=.c (.raw (.bool false))) ?_ (hno (by simp -implicitDefEqProofs (maxSteps:=400000) (maxDischargeDepth:=6) [hm,d5]))
  intro R' hR
  simp -implicitDefEqProofs (maxSteps:=400000) (maxDischargeDepth:=6) [k1,hH,opRow,d2,d3,d4,d5]
  exact hR _ (by simp -implicitDefEqProofs (maxSteps:=400000) (maxDischargeDepth:=6))
 cases d6:decide (200<o.gone.length)
 rotate_left
 ·have d6':(200:Int)<o.gone.length:=by have:=of_decide_eq_true d6;omega
  refine seq_r (fun st'=>st'.s 2=.c (.raw (.bool false))) ?_ (hno (by simp -implicitDefEqProofs (maxSteps:=400000) (maxDischargeDepth:=6) [hm,d6]))
  intro R' hR
  simp -implicitDefEqProofs (maxSteps:=400000) (maxDischargeDepth:=6) [k1,hH,opRow,d2,d3,d4,d5,d6']
  exact hR _ (by simp -implicitDefEqProofs (maxSteps:=400000) (maxDischargeDepth:=6))
 have d6':¬(200:Int)<o.gone.length:=by have:=of_decide_eq_false d6;omega
 have hg200:o.gone.length≤200:=by have:=of_decide_eq_false d6;omega
 cases d7:(decide (o.text=[])&&decide (o.gone=[]))
 rotate_left
 ·obtain ⟨d8,d9⟩:=Bool.and_eq_true_iff.1 d7
  refine seq_r (fun st'=>st'.s 2=.c (.raw (.bool false))) ?_ (hno (by simp -implicitDefEqProofs (maxSteps:=400000) (maxDischargeDepth:=6) [hm,d8,d9]))
  intro R' hR
  simp -implicitDefEqProofs (maxSteps:=400000) (maxDischargeDepth:=6) [k1,hH,opRow,d2,d3,d4,d5,d6',d8,d9]
  exact hR _ (by simp -implicitDefEqProofs (maxSteps:=400000) (maxDischargeDepth:=6))
 refine seq_c (OpAt o) ?_ ?_
 ·intro R' hR
  cases d8:decide (o.text=[])
  ·simp -implicitDefEqProofs (maxSteps:=400000) (maxDischargeDepth:=6) [k1,hH,opRow,d2,d3,d4,d5,d6',d8]
   exact hR _ ⟨by simp -implicitDefEqProofs (maxSteps:=400000) (maxDischargeDepth:=6) [k1],by simpa [opRow] using hH,by simp -implicitDefEqProofs (maxSteps:=400000) (maxDischargeDepth:=6);exact hf.mono (by omega)⟩
  ·have d9:decide (o.gone=[])=false:=by simpa [d8] using d7
   simp -implicitDefEqProofs (maxSteps:=400000) (maxDischargeDepth:=6) [k1,hH,opRow,d2,d3,d4,d5,d6',d8,d9]
   exact hR _ ⟨by simp -implicitDefEqProofs (maxSteps:=400000) (maxDischargeDepth:=6) [k1],by simpa [opRow] using hH,by simp -implicitDefEqProofs (maxSteps:=400000) (maxDischargeDepth:=6);exact hf.mono (by omega)⟩
 clear k1 hH hf hfu
 rintro st ⟨k1,hH,hf⟩
 have hfu:∀k d,st.T≤k→st.H (k,d)=.unborn:=hf
 have htx:=runesL_text o.text
 cases hx:runesL o.text with
 |none=>
  rw [hx] at htx
  have hav:refRunesAV o.text=.t [(false,[.nw 21 1 []]),(false,[.raw (.bool false)])]:=by rw [refRunesAV,hx]
  obtain ⟨p1,p2,p3⟩:=hf.arr hH
  refine seq_c (fun st'=>OpAt o st'∧st'.s 4=.c (.raw (.bool false))) ?_ ?_
  ·intro R' hR
   simp -implicitDefEqProofs (maxSteps:=400000) (maxDischargeDepth:=6) [k1,hH,opRow,h1,hav,hfu]
   exact hR _ ⟨⟨by simp -implicitDefEqProofs (maxSteps:=400000) (maxDischargeDepth:=6) [k1],by simpa [opRow,p2] using hH,by simp -implicitDefEqProofs (maxSteps:=400000) (maxDischargeDepth:=6);repeat' (first|exact hf.mono (by first|omega|(simp<;>omega))|(refine Fresh.set' ?_ (by first|omega|(simp<;>omega))))⟩,by simp -implicitDefEqProofs (maxSteps:=400000) (maxDischargeDepth:=6)⟩
  rintro st ⟨⟨k1,hH,hf⟩,k4⟩
  refine seq_r (fun st'=>st'.s 2=.c (.raw (.bool false))) ?_ (hno (by simp -implicitDefEqProofs (maxSteps:=400000) (maxDischargeDepth:=6) [hm,htx]))
  intro R' hR
  simp -implicitDefEqProofs (maxSteps:=400000) (maxDischargeDepth:=6) [k1,k4,hH,opRow]
  exact hR _ (by simp -implicitDefEqProofs (maxSteps:=400000) (maxDischargeDepth:=6))
 |some X=>
  rw [hx] at htx
  have hav:refRunesAV o.text=.t [(false,[.nw 21 1 (rowsE X)]),(false,[.raw (.bool true)])]:=by rw [refRunesAV,hx]
  have hn:=runesL_len hx
  have hX0:=runes_nil hx
  have hXl:decide (X.length=0)=decide (o.text=[]):=by rw [←hX0];cases X<;>simp -implicitDefEqProofs (maxSteps:=400000) (maxDischargeDepth:=6)
  obtain ⟨p1,p2,p3⟩:=hf.arr hH
  refine seq_c (fun st'=>OpAt o st'∧st'.s 4=.c (.raw (.bool true))∧∃g,st'.s 3=.c (.so g 0 X.length)∧st'.H g=.arr 21 1 false (rowsE X)) ?_ ?_
  ·intro R' hR
   simp -implicitDefEqProofs (maxSteps:=400000) (maxDischargeDepth:=6) [k1,hH,opRow,h1,hav,hfu]
   exact hR _ ⟨⟨by simp -implicitDefEqProofs (maxSteps:=400000) (maxDischargeDepth:=6) [k1],by simpa [opRow,p2] using hH,by simp -implicitDefEqProofs (maxSteps:=400000) (maxDischargeDepth:=6);repeat' (first|exact hf.mono (by first|omega|(simp<;>omega))|(refine Fresh.set' ?_ (by first|omega|(simp<;>omega))))⟩,by simp -implicitDefEqProofs (maxSteps:=400000) (maxDischargeDepth:=6),_,by simp -implicitDefEqProofs (maxSteps:=400000) (maxDischargeDepth:=6);rfl,by simp -implicitDefEqProofs (maxSteps:=400000) (maxDischargeDepth:=6)⟩
  clear k1 hH hf hfu p1 p2 p3
  rintro st ⟨⟨k1,hH,hf⟩,k4,g,k3,hg⟩
  have hfu:∀k d,st.T≤k→st.H (k,d)=.unborn:=hf
  cases d10:decide (runesN o.text≤12)
  ·have d10':(12:Int)<X.length:=by have:=of_decide_eq_false d10;omega
   refine seq_r (fun st'=>st'.s 2=.c (.raw (.bool false))) ?_ (hno (by simp -implicitDefEqProofs (maxSteps:=400000) (maxDischargeDepth:=6) [hm,d10]))
   intro R' hR
   simp -implicitDefEqProofs (maxSteps:=400000) (maxDischargeDepth:=6) [k1,k3,k4,hg,hH,opRow,d10']
   exact hR _ (by simp -implicitDefEqProofs (maxSteps:=400000) (maxDischargeDepth:=6))
  have d10':¬(12:Int)<X.length:=by have:=of_decide_eq_true d10;omega
  cases d11:elemB o.after
  ·refine seq_r (fun st'=>st'.s 2=.c (.raw (.bool false))) ?_ (hno (by simp -implicitDefEqProofs (maxSteps:=400000) (maxDischargeDepth:=6) [hm,d11]))
   intro R' hR
   simp -implicitDefEqProofs (maxSteps:=400000) (maxDischargeDepth:=6) [k1,k3,k4,hg,hH,opRow,d10',d11]
   exact hR _ (by simp -implicitDefEqProofs (maxSteps:=400000) (maxDischargeDepth:=6))
  cases d12:(decide (o.text=[])&&!beginB o.after)
  rotate_left
  ·obtain ⟨d13,d14⟩:=Bool.and_eq_true_iff.1 d12
   rw [Bool.not_eq_true'] at d14
   have d15:X=[]:=by rw [d13] at hX0;exact of_decide_eq_true hX0
   refine seq_r (fun st'=>st'.s 2=.c (.raw (.bool false))) ?_ (hno (by simp -implicitDefEqProofs (maxSteps:=400000) (maxDischargeDepth:=6) [hm,d13,d14]))
   intro R' hR
   subst d15
   simp -implicitDefEqProofs (maxSteps:=400000) (maxDischargeDepth:=6) [k1,k3,k4,hg,hH,opRow,d10',d11,d14]
   exact hR _ (by simp -implicitDefEqProofs (maxSteps:=400000) (maxDischargeDepth:=6))
  cases d16:ownB o o.after
  rotate_left
  ·refine seq_r (fun st'=>st'.s 2=.c (.raw (.bool false))) ?_ (hno (by simp -implicitDefEqProofs (maxSteps:=400000) (maxDischargeDepth:=6) [hm,d16]))
   intro R' hR
   cases d13:decide (X=[])
   ·simp -implicitDefEqProofs (maxSteps:=400000) (maxDischargeDepth:=6) [k1,k3,k4,hg,hH,opRow,d10',d11,d13,d16]
    exact hR _ (by simp -implicitDefEqProofs (maxSteps:=400000) (maxDischargeDepth:=6))
   ·have d14:beginB o.after=true:=by rw [hX0] at d13;simpa [d13] using d12
    simp -implicitDefEqProofs (maxSteps:=400000) (maxDischargeDepth:=6) [k1,k3,k4,hg,hH,opRow,d10',d11,d13,d14,d16]
    exact hR _ (by simp -implicitDefEqProofs (maxSteps:=400000) (maxDischargeDepth:=6))
  refine seq_c (OpAt o) ?_ ?_
  ·intro R' hR
   cases d13:decide (X=[])
   ·simp -implicitDefEqProofs (maxSteps:=400000) (maxDischargeDepth:=6) [k1,k3,k4,hg,hH,opRow,d10',d11,d13,d16]
    exact hR _ ⟨by simp -implicitDefEqProofs (maxSteps:=400000) (maxDischargeDepth:=6) [k1],by simpa [opRow] using hH,by simp -implicitDefEqProofs (maxSteps:=400000) (maxDischargeDepth:=6);exact hf.mono (by omega)⟩
   ·have d14:beginB o.after=true:=by rw [hX0] at d13;simpa [d13] using d12
    simp -implicitDefEqProofs (maxSteps:=400000) (maxDischargeDepth:=6) [k1,k3,k4,hg,hH,opRow,d10',d11,d13,d14,d16]
    exact hR _ ⟨by simp -implicitDefEqProofs (maxSteps:=400000) (maxDischargeDepth:=6) [k1],by simpa [opRow] using hH,by simp -implicitDefEqProofs (maxSteps:=400000) (maxDischargeDepth:=6);exact hf.mono (by omega)⟩
  clear k1 k3 k4 hg hH hf hfu
  rintro st ⟨k1,hH,hf⟩
  have hfu:∀k d,st.T≤k→st.H (k,d)=.unborn:=hf
  have hm2:opMayB o=goneG o none o.gone:=by
   have d12':(!decide (o.text=[])||beginB o.after)=true:=by
    have:=congrArg (!·) d12
    simpa using this
   rw [hm,htx,d2,d3,d4,d5,d6,d7,d10,d11,d12,d16]
   simp -implicitDefEqProofs (maxSteps:=400000) (maxDischargeDepth:=6)
  simp -implicitDefEqProofs (maxSteps:=400000) (maxDischargeDepth:=6)
  refine refOp_l0 o hg200 (by simp -implicitDefEqProofs (maxSteps:=400000) (maxDischargeDepth:=6) [k1]) (by simp -implicitDefEqProofs (maxSteps:=400000) (maxDischargeDepth:=6)) (by simpa using hH) (by simp -implicitDefEqProofs (maxSteps:=400000) (maxDischargeDepth:=6);exact hf.mono (by omega)) (fun hg st'=>?_) (fun hg st' h=>?_)
  ·simp -implicitDefEqProofs (maxSteps:=400000) (maxDischargeDepth:=6) [hm2,hg]
  ·simp -implicitDefEqProofs (maxSteps:=400000) (maxDischargeDepth:=6) [h,hm2,hg]
end Go.AE
