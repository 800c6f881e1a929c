/- The page's reader and the program's tell the same ops, or both find that there is none. -/
import Derived.Test.YtfmcfhlfjepbkaaGreatDoorOn4
import Derived.Test.YtfmcfhlfjepbkaaGreatDoorOn5
import Derived.Shelf.Strings.OnBuilder
import Derived.KernelRfl
import Derived.Test.YtfmcfhlfjepbkaaGreatDoorProg
import Derived.Shelf.Unicode.DecodeAny
import Derived.Lib.RuneCountTail
import Derived.Shelf.Unicode.DecodeLastEight
set_option linter.unusedVariables false
set_option linter.unusedSimpArgs false
set_option maxHeartbeats 4000000
set_option maxRecDepth 100000
namespace Go.AE
open Go Go.Proofs
def a9Q (n:Int):a0l×Int:=if 1<=n/\n<=400 then (⟨List.replicate n.toNat blank,[]⟩,0) else (⟨[],[]⟩,1)
def b21 (d:a0l) (at_:Int) (s:List UInt8):a0l×Int:=
 if a2d d=false\/s.length≠32 then (⟨[],[]⟩,1) else if at_<0\/(d.safe.length:Int)<=at_ then (⟨[],[]⟩,3) else if 400<=d.wait.length then (⟨[],[]⟩,6)
 else (⟨d.safe,d.wait++[⟨at_,s⟩]⟩,0)
def a3V (d:a0l) (at_:Int) (s:List UInt8):a0l×Int:=
 if at_<0\/(d.safe.length:Int)<=at_ then (⟨[],[]⟩,3) else if 400<=d.wait.length then (⟨[],[]⟩,6)
 else (⟨d.safe,d.wait++[⟨at_,s⟩]⟩,0)
def a3z (d:a0l):a0l×Int:=a4W d (List.replicate d.wait.length 1)
theorem b1p (n:Int):PEv Tryz.prog 36 [.c (.raw (.int .i64 n))] (a1l (a9Q n)):=by
 refine a0e mixed a7w Tryz.func36 sl36 f3M (by kernel_rfl) (by simp [a1l,a0z]) (by simp) ?_
 unfold a9Q
 by_cases h:1<=n/\n<=400
 ·rw [if_pos h]
  have h1:¬n<1:=by omega
  have h2:¬400<n:=by omega
  simp [s36,h1,h2]
  refine a0T a74 (by simp) (by simp) (by simp) ?_
  simp
  refine a0T (c91 blank n (by omega) (by omega)) (by simp;rfl) (by simp) (by simp) ?_
  simp [a1l,a0z]
 ·rw [if_neg h]
  by_cases h1:n<1
  ·simp [s36,h1,a1l,a0z]
  ·have h2:400<n:=by omega
   simp [s36,h1,h2,a1l,a0z]
theorem c3H {F:CT} (n:Nat) (hn1:n<=1000) {Q:AEx->St->Prop} {st:St} (v b:Id) (hF:a0b F 38=a0b F4 38) (k0:st.s 0=.c (.raw (.int .i64 n))) (k3:st.s 3=.c (.pt v 0 0)) (k2:st.s 2=.c (.pt b 0 0))
  (k4:st.s 4=.c (.raw (.int .i64 0))) (kv:st.H v=.arr 25 2 false [[.raw (.slice none 0 0),.raw (.slice none 0 0)]]) (hf:a0D st.H st.T)
  (hq:∀st' c,st'.s 3=.c (.pt v 0 0)->st'.s 2=.c (.pt b 0 0)->st'.H v=.arr 25 2 false [[c,.raw (.slice none 0 0)]]->a8Y st'.H 9 1 st.T c (List.replicate n blank)->
   a3b [v] st.H st.T st'.H st'.T->Q (.exit 0) st') :
  a2K Tryz.prog F (.loop c2f) Q st:=by
 refine a1C (fun m st'=>∃j:Nat,j<=n/\m=n-j/\st'.s 0=.c (.raw (.int .i64 n))/\st'.s 3=.c (.pt v 0 0)/\st'.s 2=.c (.pt b 0 0)/\st'.s 4=.c (.raw (.int .i64 j))/\a3b [v] st.H st.T st'.H st'.T/\
  ∃c,st'.H v=.arr 25 2 false [[c,.raw (.slice none 0 0)]]/\a8Y st'.H 9 1 st.T c (List.replicate j blank)) n
  ⟨0,by simp [k0,k3,k2,k4,kv,a3b.refl hf];exact a8Y.nil⟩ ?_
 rintro m st' ⟨j,hj,rfl,k0,k3,k2,k4,he,c,kv,hown⟩
 have hf':=he.fresh
 have hT:=he.2.2.1
 have hfu:∀k d,st'.T<=k->st'.H (k,d)=.a0h:=hf'
 obtain ⟨f4,f5,f6⟩:=hf'.arr kv
 by_cases hlt:j<n
 ·have e2:IntKind.wrap .i64 ((j:Int)+1)=((j+1:Nat):Int):=by rw [a0d]<;>omega
  have hrep:a0a (List.replicate j blank)++[[AC.str blank]]=a0a (List.replicate (j+1) blank):=by
   rw [show [[AC.str blank]]=a0a [blank] from rfl,<-a1g,List.replicate_succ']
  rcases hown with ⟨rfl,hl⟩|⟨id,rfl,hid,kid⟩
  ·obtain rfl:j=0:=by simpa using hl
   simp [c2f,k0,k3,k2,k4,kv,hlt,e2,hF,hfu,f4,f5]
   refine ⟨n-1,by omega,1,by omega,rfl,rfl,?_,a8Y.so (by simp) (by simp;omega) (by simp [f4,a0a])⟩
   repeat' (first|exact he.tick (by first|omega|(simp<;>omega))|(refine a3b.new ?_ (by first|omega|(simp<;>omega)) (by first|omega|(simp<;>omega)))|(refine a3b.set ?_ (by simp) (by first|omega|(simp<;>omega))))
  ·obtain ⟨f7,f8,f9⟩:=hf'.arr kid
   have hne:(id=v)=False:=by
    simp only [eq_iff_iff,iff_false];intro e;rw [e,kv] at kid;cases kid
   have hne':(v=id)=False:=by
    simp only [eq_iff_iff,iff_false];intro e;rw [<-e,kv] at kid;cases kid
   simp [c2f,k0,k3,k2,k4,kv,kid,hlt,e2,hF,hfu,f4,f5,f7,f8,hne,hne']
   refine ⟨by omega,n-(j+1),by omega,j+1,by omega,rfl,rfl,?_,a8Y.so (by simp) (by simp;omega) (by simp [f4,hrep])⟩
   repeat' (first|exact he.tick (by first|omega|(simp<;>omega))|(refine a3b.new ?_ (by first|omega|(simp<;>omega)) (by first|omega|(simp<;>omega)))|(refine a3b.set ?_ (by simp) (by first|omega|(simp<;>omega))))
 ·have:j=n:=by omega
  subst this
  simp [c2f,k0,k3,k2,k4,hlt]
  rcases hown with ⟨rfl,hl⟩|⟨id,rfl,hid,kid⟩
  ·exact hq _ _ (by simp [k3]) (by simp [k2]) (by simpa using kv) (.inl ⟨rfl,hl⟩) (he.tick (by simp))
  ·exact hq _ _ (by simp [k3]) (by simp [k2]) (by simpa using kv) (.inr ⟨id,rfl,hid,by simpa using kid⟩) (he.tick (by simp))
theorem c3I (n:Nat) (hn:n<=1000):PEv Tryz.prog 67 [.c (.raw (.int .i64 n))] (.g (a0z ⟨List.replicate n blank,[]⟩)):=by
 refine a0e mixed a7w Tryz.func67 f4f f4g (by kernel_rfl) (by simp [a0z]) (by simp) ?_
 simp [s67]
 refine c3H n hn (1,3) (0,2) rfl (by simp) (by simp) (by simp) (by simp) (by simp) (by (simp;repeat' (first|exact a1i.mono (Nat.zero_le _)|(refine a0D.set' ?_ (by simp))))) ?_
 intro st' c k3 k2 kv hown he
 have k2':=he.1 (0,2)
 simp at k2'
 rcases hown with ⟨rfl,hl⟩|⟨id,rfl,hid,kid⟩
 ·obtain rfl:n=0:=by simpa using hl
  simp [k3,k2,kv,k2',a0z]
 ·have hne:id≠(0,2):=by rintro rfl;simp at hid
  simp [k3,k2,kv,k2',kid,a0z,hne]
theorem c0N (n:Int) (h:0<=n/\n<=1000):PEv Tryz.prog 67 [.c (.raw (.int .i64 n))] (.g (a0z ⟨List.replicate n.toNat blank,[]⟩)):=by
 obtain ⟨k,rfl⟩:∃k:Nat,n=(k:Int):=⟨n.toNat,by omega⟩
 exact c3I k (by omega)
theorem c3J (d:a0l) (at_:Int) (s:List UInt8) (h1:d.safe.length<1000000) (h2:d.wait.length<1000000) :
  PEv Tryz.prog 136 [Arg.enc d,.c (.raw (.int .i64 at_)),.c (.str s)] (a1l (a3V d at_ s)):=by
 refine a0e mixed a7w Tryz.func136 e4N e4O (by kernel_rfl) (by simp [a1l,a0z]) (by simp) ?_
 have e3:IntKind.wrap .i64 ((d.safe.length:Int)-1)=(d.safe.length:Int)-1:=by rw [a0d]<;>omega
 unfold a3V
 by_cases g1:at_<0\/(d.safe.length:Int)<=at_
 ·rw [if_pos g1]
  have g2:(decide (0<=at_)&&decide (at_<=(d.safe.length:Int)-1))=false:=by simp;omega
  simp [d3J,e3,g2,a1l,a0z]
 ·rw [if_neg g1]
  have g2:(decide (0<=at_)&&decide (at_<=(d.safe.length:Int)-1))=true:=by simp;omega
  by_cases g3:400<=d.wait.length
  ·have g3':(400:Int)<=d.wait.length:=by omega
   rw [if_pos g3]
   simp [d3J,e3,g2,g3',a1l,a0z]
  ·have g3':¬(400:Int)<=d.wait.length:=by omega
   rw [if_neg g3]
   simp [d3J,e3,g2,g3',h1,h2,a1l,a0z]
   exact ⟨⟨by omega,by omega⟩,by rw [a1g];rfl⟩
theorem c0O (d:a0l) (at_:Int) (s:List UInt8) (h1:d.safe.length<1000000) (h2:d.wait.length<1000000) :
  PEv Tryz.prog 37 [Arg.enc d,.c (.raw (.int .i64 at_)),.c (.str s)] (a1l (b21 d at_ s)):=by
 refine a0e mixed a7w Tryz.func37 f3N f3O (by kernel_rfl) (by simp [a1l,a0z]) (by simp) ?_
 unfold b21
 by_cases hm:a2d d=true
 ·by_cases hs:s.length=32
  ·rw [if_neg (by simp [hm,hs])]
   by_cases g1:at_<0
   ·rw [if_pos (.inl g1)]
    simp [s37,h1,h2,hm,hs,g1,a1l,a0z]
   ·by_cases g2:(d.safe.length:Int)<=at_
    ·rw [if_pos (.inr g2)]
     simp [s37,h1,h2,hm,hs,g1,g2,a1l,a0z]
    ·rw [if_neg (by omega)]
     by_cases g3:400<=d.wait.length
     ·have g3':(400:Int)<=d.wait.length:=by omega
      rw [if_pos g3]
      simp [s37,h1,h2,hm,hs,g1,g2,g3',a1l,a0z]
     ·have g3':¬(400:Int)<=d.wait.length:=by omega
      rw [if_neg g3]
      simp [s37,h1,h2,hm,hs,g1,g2,g3',a1l,a0z]
      exact ⟨⟨by omega,by omega⟩,by rw [a1g];rfl⟩
  ·rw [if_pos (.inr hs)]
   simp [s37,h1,h2,hm,hs,a1l,a0z]
 ·rw [if_pos (.inl (by simpa using hm))]
  simp [s37,h1,h2,hm,a1l,a0z]
theorem a9R (d:a0l) (h1:d.safe.length<1000000) (h2:d.wait.length<1000000):PEv Tryz.prog 59 [Arg.enc d] (a1l (a3z d)):=by
 refine a0e mixed a7w Tryz.func59 f3Z f4a (by kernel_rfl) (by simp [a1l,a0z]) (by simp) ?_
 simp [s59]
 refine a0T (c9Z 1 d.wait.length (by omega) (by omega)) (by simp;rfl) (by simp) (by simp) ?_
 simp
 refine a0T (a5S d (List.replicate d.wait.length 1) h1 h2 (by simp;omega)) (by simp;rw [List.take_of_length_le (by simp)]) (by simp [a1l,a0z]) (by simp [a1l,a0z]) ?_
 simp [a1l,a0z,a3z]
open Go Go.Proofs
structure e12 where
 do_:Int
 n:Int
 s:List UInt8
 k:List Int
instance f0M:Enc e12 where
 w:=4
 row a:=[.raw (.int .i64 a.do_),.raw (.int .i64 a.n),.str a.s,.sl .old false (a0a a.k)]
 dec|[.raw (.int .i64 d),.raw (.int .i64 n),.str s,.sl .old false k]=>(a3T k).map fun k=>⟨d,n,s,k⟩|_=>none
 a3J a:=by simp
 a3x {r a} h:=by
  split at h
  ·rw [Option.map_eq_some_iff] at h
   obtain ⟨k,hk,rfl⟩:=h
   rw [a0K hk]
  ·cases h
 len _:=rfl
 old a c hc:=by
  simp at hc
  rcases hc with rfl|rfl|rfl|rfl
  ·exact .raw _
  ·exact .raw _
  ·exact .str _
  ·rw [a5c];simp
 ret a c hc:=by
  simp at hc
  rcases hc with rfl|rfl|rfl|rfl
  ·exact .raw _
  ·exact .raw _
  ·exact .str _
  ·rw [a30];simp
@[simp] theorem e13 (a:e12):Enc.row a=[AC.raw (.int .i64 a.do_),AC.raw (.int .i64 a.n),AC.str a.s,AC.sl .old false (a0a a.k)]:=rfl
@[simp] theorem f2X:Enc.w e12=4:=rfl
def d6s:List AV->Option (Prop×AV):=t1 (fun _=>True) fun n:Int=>a1l (a9Q n)
def c3K:List AV->Option (Prop×AV):=t3 (fun (d:a0l) _ _=>d.safe.length<1000000/\d.wait.length<1000000) fun (d:a0l) (n:Int) (s:List UInt8)=>a1l (b21 d n s)
@[simp] theorem f0N {l:List AV}:c3K l=(t3 (fun (d:a0l) _ _=>d.safe.length<1000000/\d.wait.length<1000000) fun (d:a0l) (n:Int) (s:List UInt8)=>a1l (b21 d n s)) l:=(rfl)
def c3L:List AV->Option (Prop×AV):=t1 (fun d:a0l=>d.safe.length<1000000/\d.wait.length<1000000) fun d:a0l=>a1l (a3z d)
@[simp] theorem f0O {l:List AV}:c3L l=(t1 (fun d:a0l=>d.safe.length<1000000/\d.wait.length<1000000) fun d:a0l=>a1l (a3z d)) l:=(rfl)
def d6t:List AV->Option (Prop×AV):=t2 (fun (d:a0l) (k:List Int)=>d.safe.length<1000000/\d.wait.length<1000000/\k.length<281474976710656) fun (d:a0l) (k:List Int)=>a1l (a4W d k)
def d6u:List AV->Option (Prop×AV):=t2 (fun (d:a0l) (k:List Int)=>a2d d=true/\k.length<281474976710656) fun (d:a0l) (k:List Int)=>.g (a0z ⟨a1D k 0 d.safe d.wait,[]⟩)
def c3M:List AV->Option (Prop×AV):=t1 (fun d:a0l=>a2d d=true) fun d:a0l=>.g (a0z ⟨a4A d.safe d.wait,[]⟩)
@[simp] theorem f0P {l:List AV}:c3M l=(t1 (fun d:a0l=>a2d d=true) fun d:a0l=>.g (a0z ⟨a4A d.safe d.wait,[]⟩)) l:=(rfl)
def d6v:List AV->Option (Prop×AV):=t1 (fun n:Int=>0<=n/\n<=1000) fun n:Int=>.g (a0z ⟨List.replicate n.toNat blank,[]⟩)
def b7p:List AV->Option (Prop×AV):=t3 (fun (d:a0l) _ _=>d.safe.length<1000000/\d.wait.length<1000000) fun (d:a0l) (n:Int) (s:List UInt8)=>a1l (a3V d n s)
@[simp] theorem e14 {l:List AV}:b7p l=(t3 (fun (d:a0l) _ _=>d.safe.length<1000000/\d.wait.length<1000000) fun (d:a0l) (n:Int) (s:List UInt8)=>a1l (a3V d n s)) l:=(rfl)
def F5:CT:=(36,.pu d6s)::(37,.pu c3K)::(59,.pu c3L)::(40,.pu d6t)::(93,.pu d6u)::(71,.pu c3M)::(67,.pu d6v)::(136,.pu b7p)::F4
theorem f0Q:a1k Tryz.prog F5:=⟨a0n fun n _=>b1p n,
 a6w fun d n s h=>c0O d n s h.1 h.2,
 a0n fun d h=>a9R d h.1 h.2,
 a0R fun d k h=>a5S d k h.1 h.2.1 h.2.2,
 a0R fun d k h=>b7o d k h.1 h.2,
 a0n fun d h=>c0M d h,
 a0n fun n h=>c0N n h,
 a6w fun d n s h=>c3J d n s h.1 h.2,a7w⟩
@[simp] theorem e15:a0b F5 37=some (.pu c3K):=(rfl)
@[simp] theorem e16:a0b F5 59=some (.pu c3L):=(rfl)
@[simp] theorem e17:a0b F5 71=some (.pu c3M):=(rfl)
@[simp] theorem d6w:a0b F5 136=some (.pu b7p):=(rfl)
@[simp] theorem f0R {n:Nat} (h:(n==36||n==37||n==59||n==40||n==93||n==71||n==67||n==136)=false):a0b F5 n=a0b F4 n:=by
 simp only [Bool.or_eq_false_iff,beq_eq_false_iff_ne,ne_eq] at h
 simp [F5,a0b,h]
@[simp] theorem c5g {α:Type} [Enc α] {l:List α} {n:Nat} (h:l.length<=n):List.take n (a0a l)=a0a l:=by rw [List.take_of_length_le (by simpa using h)]
@[simp] theorem d6x (a:List (List UInt8)):Arg.dec (.g [.sl .brw false (a0a a),.sl .brw false []])=some (a0l.mk a []):=c6g a []
open Go Go.Proofs Go.Shelf
def lays156_ren:Go.Shelf.Ren:=⟨fun|156=>203|165=>180|166=>181|169=>183|240=>207|241=>208|276=>223|277=>224|n=>n,fun|31=>22|9=>9|3=>3|4=>4|0=>0|20=>20|72=>210|76=>214|70=>208|37=>65|75=>213|127=>233|164=>247|5=>5|80=>70|n=>n,fun  |n=>n⟩
theorem lays156:Lays.n156 Tryz.prog lays156_ren where
 mixed:=by kernel_rfl
 f156:=Tryz.func203.trans (congrArg some (by kernel_rfl))
 f165:=Tryz.func180.trans (congrArg some (by kernel_rfl))
 f166:=Tryz.func181.trans (congrArg some (by kernel_rfl))
 f169:=Tryz.func183.trans (congrArg some (by kernel_rfl))
 f240:=Tryz.func207.trans (congrArg some (by kernel_rfl))
 f241:=Tryz.func208.trans (congrArg some (by kernel_rfl))
 f276:=Tryz.func223.trans (congrArg some (by kernel_rfl))
 f277:=Tryz.func224.trans (congrArg some (by kernel_rfl))
 t0:=Tryz.underlying0
 a0:=Tryz.isAgg0
 z0:=Tryz.sizeOf0
 v0:=Tryz.zeroValue0
 t3:=Tryz.underlying3
 a3:=Tryz.isAgg3
 z3:=Tryz.sizeOf3
 v3:=Tryz.zeroValue3
 t4:=Tryz.underlying4
 a4:=Tryz.isAgg4
 z4:=Tryz.sizeOf4
 v4:=Tryz.zeroValue4
 t9:=Tryz.underlying9
 a9:=Tryz.isAgg9
 z9:=Tryz.sizeOf9
 v9:=Tryz.zeroValue9
 t20:=Tryz.underlying20
 a20:=Tryz.isAgg20
 z20:=Tryz.sizeOf20
 v20:=Tryz.zeroValue20
 t31:=Tryz.underlying22
 a31:=Tryz.isAgg22
 z31:=Tryz.sizeOf22
 v31:=Tryz.zeroValue22
 t37:=Tryz.underlying65
 a37:=Tryz.isAgg65
 z37:=Tryz.sizeOf65
 v37:=Tryz.zeroValue65
 t70:=Tryz.underlying208
 a70:=Tryz.isAgg208
 z70:=Tryz.sizeOf208
 v70:=Tryz.zeroValue208
 t72:=Tryz.underlying210
 a72:=Tryz.isAgg210
 z72:=Tryz.sizeOf210
 v72:=Tryz.zeroValue210
 t75:=Tryz.underlying213
 a75:=Tryz.isAgg213
 z75:=Tryz.sizeOf213
 v75:=Tryz.zeroValue213
 t76:=Tryz.underlying214
 a76:=Tryz.isAgg214
 z76:=Tryz.sizeOf214
 v76:=Tryz.zeroValue214
 t127:=Tryz.underlying233
 a127:=Tryz.isAgg233
 z127:=Tryz.sizeOf233
 v127:=Tryz.zeroValue233
 t164:=Tryz.underlying247
 a164:=Tryz.isAgg247
 z164:=Tryz.sizeOf247
 v164:=Tryz.zeroValue247
theorem b22:Builder.Extra Tryz.prog lays156_ren where
 sizeBuilder:=by kernel_rfl
 liesBuilder:=by kernel_rfl
 t5:=Tryz.underlying5
 a5:=Tryz.isAgg5
 z5:=Tryz.sizeOf5
 v5:=Tryz.zeroValue5
 infoByte:=by kernel_rfl
 cellsByte:=by kernel_rfl
 sizeByte:=by kernel_rfl
 neB5:=by decide
open Go Go.Proofs
theorem c92 (l:List (List UInt8)) (h1:l.length<1000000) (h2:l.flatten.length<=140737488355328):PEv Tryz.prog 203 [Arg.enc l,.c (.str [])] (.c (.str l.flatten)):=by
 have hj:Lib.join l []=l.flatten:=by
  unfold Lib.join
  induction l with
  |nil=>rfl
  |cons x r ih=>
   cases r with
   |nil=>simp [List.intercalate]
   |cons y r=>
    have:=ih (by simp at h1 ⊢;omega) (by simp at h2 ⊢;omega)
    simp [List.intercalate,List.intersperse] at this ⊢
    rw [this]
 refine b7a (by kernel_rfl) (by simp) fun w hI F vs hs hr=>?_
 have h0:=a0C (hr 0 _ rfl)
 have h01:=a1U (a0C (hr 1 _ rfl))
 generalize hv:vs.getD 0 undef=v at h0
 rw [vs2 hs hv h01]
 generalize hx:a0a l=xs at h0
 cases h0 with
 |a1b _ _ _ hn=>
  cases l with
  |cons=>cases hx
  |nil=>
   rcases hn with rfl|⟨a,rfl⟩
   ·exact (Any.strings_Join_none lays156 b22 none 0 ⟨#[]⟩ w).mono fun e w' ⟨he,hw⟩=>⟨he,hw▸RowKit.Below.refl _ _⟩
   ·exact (Any.strings_Join_none lays156 b22 (some a) 0 ⟨#[]⟩ w).mono fun e w' ⟨he,hw⟩=>⟨he,hw▸RowKit.Below.refl _ _⟩
 |sl _ _ _ b o cap sz us hb hF hcap hcl hrow hcell hone hrel=>
  subst hx
  have hlen:(a0a l).length=l.length:=by simp [a0a]
  have:=Any.strings_Join lays156 b22 b o cap (l.map fun s=>(⟨s.toArray⟩:ByteArray)) ⟨#[]⟩ w (fun j x hjx=>?_) hb (by simp;omega) (by simp;rw [<-hlen];exact hcap) (by simp [Function.comp_def,hj];simpa using h2)
  ·simp [Function.comp_def,hj] at this
   rw [hlen]
   exact this
  ·simp at hjx
   obtain ⟨s,hs',rfl⟩:=hjx
   have hri:(a0a l)[j]?=some [AC.str s]:=by simp [a0a,hs']
   have hsz:1=sz:=hrow j _ hri
   subst hsz
   have hjl:j<l.length:=(List.getElem?_eq_some_iff.1 hs').1
   rw [hcell j (by rw [hlen];omega)]
   have:=a1U (hrel j 0 _ _ hri rfl)
   simp at this
   rw [this]
def a8a (s p:List UInt8):Bool:=Lib.hasPrefix s p
theorem b5P (s p:List UInt8):PEv Tryz.prog 179 [.c (.str s),.c (.str p)] (.c (.raw (.bool (a8a s p)))):=by
 refine b7b (by kernel_rfl) (by simp) fun w hI F vs hs hr=>?_
 have h0:=a1U (a0C (hr 0 _ rfl))
 have h1:=a1U (a0C (hr 1 _ rfl))
 rw [vs2 hs h0 h1]
 exact (Any.strings_HasPrefix {lays105 with} ⟨s.toArray⟩ ⟨p.toArray⟩ w).mono fun e w' ⟨he,hw⟩=>⟨he,hw▸RowKit.Below.refl _ _⟩
open Go Go.Proofs
theorem c0P (s:List UInt8) (n:Int) (h0:0<=n/\n<=1000000) (h:s.length=1):PEv Tryz.prog 138 [.c (.str s),.c (.raw (.int .i64 n))] (.c (.str (Lib.repeatL s n.toNat))):=by
 have:=b5O s n.toNat (by rw [h];omega) (by omega)
 rwa [Int.toNat_of_nonneg h0.1] at this
def b23:List AV->Option (Prop×AV):=t1 (fun n=>0<=n/\n<9223372036854775808) fun n:Int=>.c (.str (a0g n.toNat))
@[simp] theorem d6y {l:List AV}:b23 l=(t1 (fun n=>0<=n/\n<9223372036854775808) fun n:Int=>.c (.str (a0g n.toNat))) l:=(rfl)
def b24:List AV->Option (Prop×AV):=t1 (fun s=>s.length<4611686018427387904) fun s:List UInt8=>a3A s
@[simp] theorem d6z {l:List AV}:b24 l=(t1 (fun s=>s.length<4611686018427387904) fun s:List UInt8=>a3A s) l:=(rfl)
def b25:List AV->Option (Prop×AV):=t1 okP fun o:OpV=>.c (.str (a0Z o))
@[simp] theorem d6A {l:List AV}:b25 l=(t1 okP fun o:OpV=>.c (.str (a0Z o))) l:=(rfl)
def b26:List AV->Option (Prop×AV):=t1 (fun s=>s.length<4611686018427387904) fun s:List UInt8=>.c (.str (a03 s))
@[simp] theorem d6B {l:List AV}:b26 l=(t1 (fun s=>s.length<4611686018427387904) fun s:List UInt8=>.c (.str (a03 s))) l:=(rfl)
def b27:List AV->Option (Prop×AV):=t1 (fun s=>s.length<4611686018427387904) fun s:List UInt8=>a1v s
@[simp] theorem d6C {l:List AV}:b27 l=(t1 (fun s=>s.length<4611686018427387904) fun s:List UInt8=>a1v s) l:=(rfl)
def b28:List AV->Option (Prop×AV):=t2 (fun s n=>(0<=n/\n<=1000000)/\s.length=1) fun (s:List UInt8) (n:Int)=>.c (.str (Lib.repeatL s n.toNat))
@[simp] theorem d6D {l:List AV}:b28 l=(t2 (fun s n=>(0<=n/\n<=1000000)/\s.length=1) fun (s:List UInt8) (n:Int)=>.c (.str (Lib.repeatL s n.toNat))) l:=(rfl)
def b29:List AV->Option (Prop×AV):=t2 (fun l s=>s=[]/\l.length<1000000/\l.flatten.length<=140737488355328) fun (l:List (List UInt8)) (s:List UInt8)=>.c (.str l.flatten)
@[simp] theorem d6E {l:List AV}:b29 l=(t2 (fun l s=>s=[]/\l.length<1000000/\l.flatten.length<=140737488355328) fun (l:List (List UInt8)) (s:List UInt8)=>.c (.str l.flatten)) l:=(rfl)
def b3a:List AV->Option (Prop×AV):=t2 (fun _ _=>True) fun s p:List UInt8=>.c (.raw (.bool (a8a s p)))
@[simp] theorem d6F {l:List AV}:b3a l=(t2 (fun _ _=>True) fun s p:List UInt8=>.c (.raw (.bool (a8a s p)))) l:=(rfl)
def b3b:List AV->Option (Prop×AV):=t1 (fun e=>okO e.op) fun e:a0k=>.c (.raw (.bool (a0H e)))
@[simp] theorem d6G {l:List AV}:b3b l=(t1 (fun e=>okO e.op) fun e:a0k=>.c (.raw (.bool (a0H e)))) l:=(rfl)
def b3c:MH:=mh1 253 2 (rdG okR a7M b4H)
@[simp] theorem d6H {H:Heap} {l:List AV}:b3c H l=(mh1 253 2 (rdG okR a7M b4H)) H l:=(rfl)
def FT0:CT:=(192,.pu b23)::(221,.pu b24)::(168,.pu b25)::(194,.pu b26)::(204,.pu b27)::(138,.pu b28)::(203,.pu b29)::(179,.pu b3a)::(163,.pu b3b)::(230,.mu b3c)::F5
theorem c3N:a1k Tryz.prog FT0:=⟨a0n fun n h=>by have:=a6P n.toNat (by omega);rwa [Int.toNat_of_nonneg h.1] at this,
 a0n fun s h=>a7X s h,
 a0n fun o h=>b9B o h,
 a0n fun s h=>b1i s h,
 a0n fun s h=>a9O s h,
 a0R fun s n h=>c0P s n h.1 h.2,
 a0R fun l s h=>by rw [h.1];exact c92 l h.2.1 h.2.2,
 a0R fun s p _=>b5P s p,
 a0n fun e h=>b5K e h,
 c9U,f0Q⟩
@[simp] theorem d1V:a0b FT0 192=some (.pu b23):=(rfl)
@[simp] theorem d1W:a0b FT0 221=some (.pu b24):=(rfl)
@[simp] theorem d1X:a0b FT0 168=some (.pu b25):=(rfl)
@[simp] theorem d1Y:a0b FT0 194=some (.pu b26):=(rfl)
@[simp] theorem d1Z:a0b FT0 204=some (.pu b27):=(rfl)
@[simp] theorem d2a:a0b FT0 138=some (.pu b28):=(rfl)
@[simp] theorem d2b:a0b FT0 203=some (.pu b29):=(rfl)
@[simp] theorem d2c:a0b FT0 179=some (.pu b3a):=(rfl)
@[simp] theorem d2d:a0b FT0 163=some (.pu b3b):=(rfl)
@[simp] theorem d2e:a0b FT0 230=some (.mu b3c):=(rfl)
@[simp] theorem e18 {n:Nat} (h:(n==192||n==221||n==168||n==194||n==204||n==138||n==203||n==179||n==163||n==230)=false):a0b FT0 n=a0b F5 n:=by
 simp only [Bool.or_eq_false_iff,beq_eq_false_iff_ne,ne_eq] at h
 simp [FT0,a0b,h]
def a01 (s:List UInt8):OpV×List UInt8×Int:=if (a7M ⟨s,false⟩).2.bad then (a0V,[],7) else ((a7M ⟨s,false⟩).1,(a7M ⟨s,false⟩).2.s,0)
def a39 (s:List UInt8):AV:=.t [(true,a0f .old (a01 s).1),(false,[.str (a01 s).2.1]),(false,[.raw (.int .i64 (a01 s).2.2)])]
theorem c3O (s:List UInt8) (hs:s.length<4611686018427387904):PEv Tryz.prog 222 [.c (.str s)] (a39 s):=by
 refine a0e mixed c3N Tryz.func222 e9Y e9Z (by kernel_rfl) (by simp [a39,a0f]) (by simp) ?_
 have hr:okR ⟨s,false⟩:=hs
 rcases e:a7M ⟨s,false⟩ with ⟨o,s1,b1⟩
 cases b1
 ·have e2:a01 s=(o,s1,0):=by simp [a01,e]
  simp [e1v,e,hr,a0W,b4H,a0F,a39,e2,a0f]
 ·have e2:a01 s=(a0V,[],7):=by simp [a01,e]
  simp [e1v,e,hr,a0W,b4H,a0F,a39,e2,a0f,a0V]
theorem c93 (n:Nat):Lib.repeatL [0] n=List.replicate n 0:=by
 induction n with
 |zero=>rfl
 |succ n ih=>rw [Lib.repeatL,ih];rfl
def b0t (n:Nat):Nat:=(32-n%32)%32
def a8b (s:List UInt8):List UInt8:=s++List.replicate (b0t s.length) 0
theorem c3P (s:List UInt8) (hs:s.length<4611686018427387904):PEv Tryz.prog 193 [.c (.str s)] (.c (.str (a8b s))):=by
 refine a0e mixed c3N Tryz.func193 e85 e86 (by kernel_rfl) (by simp) (by simp) ?_
 have t:∀n:Nat,((n:Int).tmod 32)=((n%32:Nat):Int):=fun n=>rfl
 have e1:=t s.length
 have e2:IntKind.wrap .i64 (32-((s.length%32:Nat):Int))=((32-s.length%32:Nat):Int):=by rw [a0d]<;>omega
 have e3:(((32-s.length%32:Nat):Int).tmod 32)=((b0t s.length:Nat):Int):=t _
 have e4:b0t s.length<32:=by unfold b0t;omega
 generalize hq:s.length%32=q at e1 e2 e3
 generalize hq2:32-q=q2 at e2 e3
 simp [e84,e1,e2,e3,c93,show b0t s.length<=1000000 by omega]
 exact ⟨by omega,by omega,rfl⟩
structure okF (e:a0k):Prop where
 join:e.join=true->okN e.a0N
 op:e.join=false->okP e.op
def a0E (e:a0k):List UInt8:=if e.join then a0g 1++a0g e.a0N.toNat else a0g 0++a0Z e.op
def a0j (e:a0k):List UInt8×Int:=if 700<(a0E e).length then ([],2) else (a8b (a03 (a0E e)),0)
def a27 (e:a0k):AV:=.t [(false,[.str (a0j e).1]),(false,[.raw (.int .i64 (a0j e).2)])]
def b3d:List AV->Option (Prop×AV):=t1 (fun s=>s.length<4611686018427387904) fun s:List UInt8=>.c (.str (a8b s))
@[simp] theorem d6I {l:List AV}:b3d l=(t1 (fun s=>s.length<4611686018427387904) fun s:List UInt8=>.c (.str (a8b s))) l:=(rfl)
def b3e:List AV->Option (Prop×AV):=t1 (fun s=>s.length<4611686018427387904) fun s:List UInt8=>a39 s
@[simp] theorem d6J {l:List AV}:b3e l=(t1 (fun s=>s.length<4611686018427387904) fun s:List UInt8=>a39 s) l:=(rfl)
def FT1:CT:=(193,.pu b3d)::(222,.pu b3e)::FT0
theorem c3Q:a1k Tryz.prog FT1:=⟨a0n fun s h=>c3P s h,
 a0n fun s h=>c3O s h,c3N⟩
@[simp] theorem d2f:a0b FT1 193=some (.pu b3d):=(rfl)
@[simp] theorem d2g:a0b FT1 222=some (.pu b3e):=(rfl)
@[simp] theorem e19 {n:Nat} (h:(n==193||n==222)=false):a0b FT1 n=a0b FT0 n:=by
 simp only [Bool.or_eq_false_iff,beq_eq_false_iff_ne,ne_eq] at h
 simp [FT1,a0b,h]
theorem a4X {o:OpV} (h:okP o):(a0Z o).length<=40000000:=by
 have hl1:=a2U [o.site,o.seq,o.kind]
 have hl2:=a2U [o.of_,o.num,o.gen]
 have hl3:=a4U o.after
 have hl4:=a0G o.text.length
 have hl5:=a2U [(o.gone.length:Int)]
 have hl6:=h.text
 have hl7:=h.len
 have hl8:=b2T o.gone
 simp only [List.length_cons,List.length_nil] at hl1 hl2 hl5
 unfold a0Z a3R b4G
 split<;>simp only [List.length_append]<;>omega
theorem b5Q {s:List UInt8} (h:s.length<4611686018427387800):(a03 s).length<4611686018427387904:=by
 have h1:=a0G s.length
 unfold a03
 split
 ·simp
 ·simp only [List.length_append]
  have l1:(a1x (ofN (a0g s.length++s))).length=4:=rfl
  omega
theorem c3R (e:a0k) (h:okF e):PEv Tryz.prog 164 [Arg.enc e] (a27 e):=by
 refine a0e mixed c3Q Tryz.func164 e8y e8z (by kernel_rfl) (by simp [a27]) (by simp [a0q,a0f]) ?_
 obtain ⟨h1,h2⟩:=h
 cases c:e.join
 ·have ho:=h2 c
  have hl:=a4X ho
  have hb:=a0G 0
  have e1:a0E e=a0g 0++a0Z e.op:=by simp [a0E,c]
  have hp:(a0g 0++a0Z e.op).length<=50000000:=by simp only [List.length_append];omega
  have hs:=b5Q (s:=a0g 0++a0Z e.op) (by omega)
  have l1:(a0g 0).length+(a0Z e.op).length<=9223372036854775807:=by omega
  by_cases h7:700<(a0g 0++a0Z e.op).length
  ·have e2:a0j e=([],2):=by rw [a0j,e1,if_pos h7]
   simp only [List.length_append] at h7
   have h7':(700:Int)<(a0g 0).length+(a0Z e.op).length:=by omega
   simp [d5o,a0q,a0f,c,ho,l1,h7',a27,e2]
  ·have e2:a0j e=(a8b (a03 (a0g 0++a0Z e.op)),0):=by rw [a0j,e1,if_neg h7]
   simp only [List.length_append] at h7
   have h7':¬(700:Int)<(a0g 0).length+(a0Z e.op).length:=by omega
   have l2:(a0g 0).length+(a0Z e.op).length<4611686018427387904:=by omega
   simp [d5o,a0q,a0f,c,ho,l1,l2,h7',a27,e2,hs]
 ·obtain ⟨ho,ho'⟩:=h1 c
  have hb:=a0G 1
  have hl:=a0G e.a0N.toNat
  have e1:a0E e=a0g 1++a0g e.a0N.toNat:=by simp [a0E,c]
  have hs:=b5Q (s:=a0g 1++a0g e.a0N.toNat) (by simp only [List.length_append];omega)
  have l1:(a0g 1).length+(a0g e.a0N.toNat).length<=9223372036854775807:=by omega
  have h7:¬700<(a0g 1++a0g e.a0N.toNat).length:=by simp only [List.length_append];omega
  have e2:a0j e=(a8b (a03 (a0g 1++a0g e.a0N.toNat)),0):=by rw [a0j,e1,if_neg h7]
  have h7':¬(700:Int)<(a0g 1).length+(a0g e.a0N.toNat).length:=by omega
  have l2:(a0g 1).length+(a0g e.a0N.toNat).length<4611686018427387904:=by omega
  simp [d5o,a0q,a0f,c,ho,ho',l1,l2,h7',a27,e2,hs]
open Go Go.Proofs
theorem a9S (s:List UInt8):(a1e s).2.1.length<=s.length:=by
 cases hn:takeN s with
 |none=>simp [a1e,hn]
 |some q=>
  obtain ⟨n,t⟩:=q
  have:=(a1W hn).2
  simp [a1e,hn]
  omega
theorem a7y (s:List UInt8):(a0L s).1.length<=s.length/\(a0L s).2.1.length<=s.length:=by
 cases hn:takeN s with
 |none=>simp [a0L,hn]
 |some q=>
  obtain ⟨n,t⟩:=q
  have:=(a1W hn).2
  simp only [a0L,hn]
  split
  ·simp;omega
  ·simp
theorem a2V (r:RdV):(rdNum r).2.s.length<=r.s.length:=a9S r.s
theorem b1q (r:RdV):(a07 r).2.s.length<=r.s.length:=by
 have h1:=a2V r
 have h2:=a2V (rdNum r).2
 have h3:=a2V (rdNum (rdNum r).2).2
 simp only [a07]
 omega
theorem a6S (r:RdV):∀n,(a0O n r).2.s.length<=r.s.length/\(a0O n r).1.length=n
 |0=>⟨Nat.le_refl _,rfl⟩
 |n+1=>by
  obtain ⟨h1,h2⟩:=a6S r n
  have:=b1q (a0O n r).2
  refine ⟨?_,by simp [a0O,h2]⟩
  simp only [a0O]
  omega
theorem c6G (r:RdV):(a7M r).1.text.length<=r.s.length/\(a7M r).1.gone.length<=200/\(a7M r).2.s.length<=r.s.length:=by
 have h1:=a2V r
 have h2:=a2V (rdNum r).2
 have h3:=a2V (rdNum (rdNum r).2).2
 simp only [a7M]
 split
 ·have h4:=a2V (rdNum (rdNum (rdNum r).2).2).2
  have h5:=a2V (rdNum (rdNum (rdNum (rdNum r).2).2).2).2
  have h6:=a2V (rdNum (rdNum (rdNum (rdNum (rdNum r).2).2).2).2).2
  simp only [List.length_nil]
  omega
 ·have h4:=b1q (rdNum (rdNum (rdNum r).2).2).2
  have h5:=a7y (a07 (rdNum (rdNum (rdNum r).2).2).2).2.s
  have h6:=a2V (a1d (a07 (rdNum (rdNum (rdNum r).2).2).2).2).2
  obtain ⟨h7,h8⟩:=a6S (rdNum (a1d (a07 (rdNum (rdNum (rdNum r).2).2).2).2).2).2 (min (rdNum (a1d (a07 (rdNum (rdNum (rdNum r).2).2).2).2).2).1.toNat 200)
  obtain ⟨h9,h10⟩:=h5
  simp only [a1d] at h6 h7 h8 ⊢
  refine ⟨by omega,by omega,by omega⟩
theorem a5l (s:List UInt8):(a01 s).1.text.length<=s.length/\(a01 s).1.gone.length<=200/\(a01 s).2.1.length<=s.length:=by
 obtain ⟨h1,h2,h3⟩:=c6G ⟨s,false⟩
 unfold a01
 split
 ·simp [a0V]
 ·exact ⟨h1,h2,h3⟩
def zeroE:a0k:=⟨false,0,a0V⟩
def a2b (s:List UInt8):a0k×Bool:=
 if (a1e s).2.2≠0\/1<(a1e s).1 then (zeroE,false)
 else if (a1e s).1=1 then
  (⟨true,(a1e (a1e s).2.1).1,a0V⟩,decide ((a1e (a1e s).2.1).2.2=0)&&decide ((a1e (a1e s).2.1).2.1=[])&&a0H ⟨true,(a1e (a1e s).2.1).1,a0V⟩)
 else (⟨false,0,(a01 (a1e s).2.1).1⟩,decide ((a01 (a1e s).2.1).2.2=0)&&decide ((a01 (a1e s).2.1).2.1=[])&&a0H ⟨false,0,(a01 (a1e s).2.1).1⟩)
def a3v (s:List UInt8):AV:=.t [(true,a0q .old (a2b s).1),(false,[.raw (.bool (a2b s).2)])]
theorem c6H:okO a0V:=⟨by simp [a0V],by simp [a0V]⟩
theorem c6I (s:List UInt8) (hs:s.length<4611686018427387904):PEv Tryz.prog 205 [.c (.str s)] (a3v s):=by
 refine a0e mixed c3Q Tryz.func205 e9q e9r (by kernel_rfl) (by simp [a3v,a0q,a0f]) (by simp) ?_
 have l1:=a9S s
 rcases e1:a1e s with ⟨n,r,x⟩
 rw [e1] at l1
 simp only at l1
 have l2:r.length<4611686018427387904:=by omega
 have hR:a2b s=if x≠0\/1<n then (zeroE,false)
   else if n=1 then (⟨true,(a1e r).1,a0V⟩,decide ((a1e r).2.2=0)&&decide ((a1e r).2.1=[])&&a0H ⟨true,(a1e r).1,a0V⟩)
   else (⟨false,0,(a01 r).1⟩,decide ((a01 r).2.2=0)&&decide ((a01 r).2.1=[])&&a0H ⟨false,0,(a01 r).1⟩):=by simp only [a2b,e1]
 have e1':a3A s=.t [(false,[.raw (.int .i64 n)]),(false,[.str r]),(false,[.raw (.int .i64 x)])]:=by simp [a3A,e1]
 by_cases c1:x=0
 rotate_left
 ·rw [if_pos (Or.inl c1)] at hR
  simp [c5d,hs,e1',c1,a3v,hR,a0q,a0f,zeroE,a0V]
 by_cases c2:1<n
 ·rw [if_pos (Or.inr c2)] at hR
  have c2':(1:Int)<n:=by omega
  simp [c5d,hs,e1',c1,c2',a3v,hR,a0q,a0f,zeroE,a0V]
 rw [if_neg (by omega)] at hR
 have c2':¬(1:Int)<n:=by omega
 by_cases c3:n=1
 ·rw [if_pos c3] at hR
  have c3':(n:Int)=1:=by omega
  rcases e2:a1e r with ⟨m,r2,x2⟩
  rw [e2] at hR
  simp only at hR
  have e2':a3A r=.t [(false,[.raw (.int .i64 m)]),(false,[.str r2]),(false,[.raw (.int .i64 x2)])]:=by simp [a3A,e2]
  have hz:okO a0V:=c6H
  have hd:(⟨true,(m:Int),⟨0,0,0,⟨0,0,0⟩,[],[],0,0,0⟩⟩:a0k)=⟨true,m,a0V⟩:=rfl
  have hd2:∀w:Tag,a0f w a0V=a0f w ⟨0,0,0,⟨0,0,0⟩,[],[],0,0,0⟩:=fun _=>rfl
  cases c4:decide (x2=0)
  ·rw [c4] at hR
   simp [c5d,hs,l2,e1',e2',c1,c2',c3',c4,a3v,hR,a0q,hd2,a0f]
   simp [a0V]
  rw [c4] at hR
  cases c5:decide (r2=[])
  ·rw [c5] at hR
   simp [c5d,hs,l2,e1',e2',c1,c2',c3',c4,c5,a3v,hR,a0q,hd2,a0f]
   simp [a0V]
  ·rw [c5] at hR
   simp [c5d,hs,l2,e1',e2',c1,c2',c3',c4,c5,a3v,hR,a0q,hd2,a0f,hz,hd]
   simp [a0V]
 ·rw [if_neg c3] at hR
  have c3':¬(n:Int)=1:=by omega
  obtain ⟨g1,g2,g3⟩:=a5l r
  rcases e2:a01 r with ⟨o,r2,x2⟩
  rw [e2] at hR g1 g2 g3
  simp only at hR g1 g2 g3
  have ho:okO o:=⟨by omega,by omega⟩
  cases c4:decide (x2=0)
  ·rw [c4] at hR
   simp [c5d,hs,l2,e1',e2,a39,c1,c2',c3',c4,a3v,hR,a0q,a0f]
  rw [c4] at hR
  cases c5:decide (r2=[])
  ·rw [c5] at hR
   simp [c5d,hs,l2,e1',e2,a39,c1,c2',c3',c4,c5,a3v,hR,a0q,a0f]
  ·rw [c5] at hR
   simp [c5d,hs,l2,e1',e2,a39,c1,c2',c3',c4,c5,a3v,hR,a0q,a0f,ho]
theorem a6f {o:OpV} {p:Option a0B} {x:a0B} {l:List a0B} (h:a2S o p (x::l)=true):a16 x=true/\a2S o (some x) l=true:=by
 have key:∀(B:Bool) (X:Bool),(if decide (x=⟨0,0,0⟩)||!a16 x||ownB o x||B then false else X)=true->a16 x=true/\X=true:=by
  intro B X h
  cases h1:a16 x
  ·rw [h1] at h;simp at h
  ·refine ⟨rfl,?_⟩
   split at h
   ·cases h
   ·exact h
 cases p with
 |none=>exact key _ _ h
 |some q=>exact key _ _ h
theorem b5R {o:OpV} (h:a0s o=true) (h1:o.text.length<1000000) (h2:o.gone.length<1000000):okP o:=by
 simp only [a0s,Bool.and_eq_true] at h
 obtain ⟨hn,h⟩:=h
 have hn:=a6Q hn
 by_cases hk:o.kind=1
 ·rw [if_pos hk] at h
  simp only [a3Q,Bool.and_eq_true,decide_eq_true_eq] at h
  obtain ⟨⟨⟨⟨⟨⟨⟨⟨⟨e1,_⟩,_⟩,_⟩,_⟩,_⟩,e2⟩,e3⟩,e4⟩,e5⟩:=h
  have hg:∀(l:List a0B) (p:Option a0B),a2S o p l=true->∀e∈l,okE e:=by
   intro l
   induction l with
   |nil=>intro p _ e he;simp at he
   |cons x l ih=>
    intro p hp e he
    obtain ⟨k1,k2⟩:=a6f hp
    rcases List.mem_cons.1 he with rfl|he
    ·exact b9A k1
    ·exact ih _ k2 e he
  simp only [a38,Bool.and_eq_true] at e2
  exact ⟨⟨by omega,by omega⟩,⟨by omega,by omega⟩,by rw [hk];exact ⟨by omega,by omega⟩,by rw [e3];exact ⟨by omega,by omega⟩,by rw [e4];exact ⟨by omega,by omega⟩,by rw [e5];exact ⟨by omega,by omega⟩,b9A e1,hg _ _ e2.1,h1,h2⟩
 ·rw [if_neg hk] at h
  simp only [a1H,Bool.and_eq_true,decide_eq_true_eq,Bool.not_eq_true',decide_eq_false_iff_not] at h
  obtain ⟨hk2,⟨⟨⟨⟨⟨e1,_⟩,e2⟩,e3⟩,e4⟩,_⟩,e5⟩:=h
  have e1:=a6Q e1
  exact ⟨⟨by omega,by omega⟩,⟨by omega,by omega⟩,by rw [hk2];exact ⟨by omega,by omega⟩,⟨by omega,by omega⟩,⟨by omega,by omega⟩,⟨by omega,by omega⟩,by rw [e4];exact ⟨⟨by simp,by simp⟩,⟨by simp,by simp⟩,by simp,by simp⟩,by rw [e5];intro e he;simp at he,h1,h2⟩
theorem a4Y {e:a0k} (h:a0H e=true) (h1:e.op.text.length<1000000) (h2:e.op.gone.length<1000000):okF e:=by
 unfold a0H at h
 refine ⟨fun hj=>?_,fun hj=>?_⟩
 ·rw [hj] at h
  simp only [if_true,Bool.and_eq_true,decide_eq_true_eq] at h
  exact ⟨by omega,by omega⟩
 ·rw [hj] at h
  simp only [Bool.false_eq_true,if_false,Bool.and_eq_true] at h
  exact b5R h.2 h1 h2
theorem b9D {s:List UInt8} (hs:s.length<1000000) (h:(a2b s).2=true):okF (a2b s).1:=by
 have l1:=a9S s
 obtain ⟨g1,g2,g3⟩:=a5l (a1e s).2.1
 unfold a2b at h ⊢
 split at h
 ·cases h
 ·rename_i c1
  rw [if_neg c1]
  split at h
  ·rename_i c2
   rw [if_pos c2]
   simp only [Bool.and_eq_true] at h
   exact a4Y h.2 (by simp [a0V]) (by simp [a0V])
  ·rename_i c2
   rw [if_neg c2]
   simp only [Bool.and_eq_true] at h
   exact a4Y h.2 (by show (a01 (a1e s).2.1).1.text.length<_;omega) (by show (a01 (a1e s).2.1).1.gone.length<_;omega)
open Go
theorem a6g {s r:List UInt8} {n:Nat} (h:takeN s=some (n,r)):s=a0g n++r:=by
 have go:∀(k m acc:Nat) (s r:List UInt8) (n j:Nat),1<=m->a3y k m acc s=some (n,r)->k<=j+1->∃q,n=acc+q*m/\s=a00 j q++r/\(1<m->1<=q):=by
  intro k
  induction k with
  |zero=>intro m acc s r n j _ h;cases h
  |succ k ih=>
   intro m acc s r n j hm h hj
   cases s with
   |nil=>cases h
   |cons b s=>
    have hb:=b.toNat_lt
    rw [a3y] at h
    split at h
    ·rename_i hb8
     have hk:k≠0:=by rintro rfl;cases h
     obtain ⟨j,rfl⟩:∃i,j=i+1:=⟨j-1,by omega⟩
     obtain ⟨q,h1,h2,h3⟩:=ih _ _ _ _ _ j (by omega) h (by omega)
     have h3:=h3 (by omega)
     refine ⟨b.toNat%128+q*128,?_,?_,fun _=>by omega⟩
     ·rw [h1,Nat.add_mul,Nat.mul_assoc,Nat.mul_comm m 128];omega
     ·have e1:¬b.toNat%128+q*128<128:=by omega
      have e2:(b.toNat%128+q*128)%128+128=b.toNat:=by omega
      have e3:(b.toNat%128+q*128)/128=q:=by omega
      have e4:UInt8.ofNat b.toNat=b:=by simp
      rw [a00,if_neg e1,e2,e3,e4,h2]
      rfl
    ·split at h
     ·cases h
     ·rename_i hb8 hc
      cases h
      have e0:b.toNat%128=b.toNat:=by omega
      refine ⟨b.toNat,by rw [e0],?_,fun h1=>by omega⟩
      have e4:UInt8.ofNat b.toNat=b:=by simp
      cases j with
      |zero=>rw [a00,e4];rfl
      |succ j=>rw [a00,if_pos (by omega),e4];rfl
 obtain ⟨q,h1,h2,_⟩:=go 5 1 0 s r n 9 (Nat.le_refl _) h (by omega)
 have:n=q:=by omega
 rw [this]
 exact h2
theorem a2M {r:RdV} (h:(rdNum r).2.bad=false):r.bad=false/\r.s=a0g (rdNum r).1.toNat++(rdNum r).2.s:=by
 simp only [rdNum,Bool.or_eq_false_iff] at h
 obtain ⟨h1,h2⟩:=h
 refine ⟨h1,?_⟩
 simp only [rdNum,a1e] at h2 ⊢
 cases hn:takeN r.s with
 |none=>simp [hn] at h2
 |some q=>exact a6g hn
theorem c3S {r:RdV} (h:(a1d r).2.bad=false):r.bad=false/\r.s=a0g (a1d r).1.length++(a1d r).1++(a1d r).2.s:=by
 simp only [a1d,Bool.or_eq_false_iff] at h
 obtain ⟨h1,h2⟩:=h
 refine ⟨h1,?_⟩
 simp only [a1d,a0L] at h2 ⊢
 cases hn:takeN r.s with
 |none=>simp [hn] at h2
 |some q=>
  obtain ⟨n,t⟩:=q
  simp only [hn] at h2 ⊢
  split
  ·rename_i hl
   have e:(t.take n).length=n:=by rw [List.length_take];omega
   simp only [e]
   rw [List.append_assoc,List.take_append_drop]
   exact a6g hn
  ·rename_i hl
   rw [if_neg hl] at h2
   simp at h2
theorem b5S {r:RdV} (h:(a07 r).2.bad=false):r.bad=false/\r.s=a1p (a07 r).1++(a07 r).2.s:=by
 have h3:=a2M (r:=(rdNum (rdNum r).2).2) h
 have h2:=a2M h3.1
 have h1:=a2M h2.1
 refine ⟨h1.1,?_⟩
 rw [h1.2,h2.2,h3.2]
 simp [a07,a1p,a1X]
theorem b1r (r:RdV):∀n,(a0O n r).2.bad=false->r.bad=false/\r.s=(a0O n r).1.flatMap a1p++(a0O n r).2.s
 |0,h=>⟨h,rfl⟩
 |n+1,h=>by
  have h1:=b5S (r:=(a0O n r).2) h
  obtain ⟨h2,h3⟩:=b1r r n h1.1
  refine ⟨h2,?_⟩
  rw [h3,h1.2]
  simp [a0O]
theorem c94 {r:RdV} (h:(a7M r).2.bad=false):r.bad=false/\a0s (a7M r).1=true/\r.s=a0Z (a7M r).1++(a7M r).2.s:=by
 by_cases hk:(rdNum (rdNum (rdNum r).2).2).1=2
 ·simp only [a7M,if_pos hk,Bool.or_eq_false_iff] at h ⊢
  obtain ⟨h,hm⟩:=h
  have h6:=a2M h
  have h5:=a2M h6.1
  have h4:=a2M h5.1
  have h3:=a2M h4.1
  have h2:=a2M h3.1
  have h1:=a2M h2.1
  refine ⟨h1.1,by simpa using hm,?_⟩
  rw [h1.2,h2.2,h3.2,h4.2,h5.2,h6.2]
  simp [a0Z,hk,a3R,a1X]
 ·simp only [a7M,if_neg hk,Bool.or_eq_false_iff] at h ⊢
  obtain ⟨⟨h,hn⟩,hm⟩:=h
  have h7:=b1r _ _ h
  have h6:=a2M h7.1
  have h5:=c3S h6.1
  have h4:=b5S h5.1
  have h3:=a2M h4.1
  have h2:=a2M h3.1
  have h1:=a2M h2.1
  refine ⟨h1.1,by simpa using hm,?_⟩
  have hl:=(a6S (rdNum (a1d (a07 (rdNum (rdNum (rdNum r).2).2).2).2).2).2 (min (rdNum (a1d (a07 (rdNum (rdNum (rdNum r).2).2).2).2).2).1.toNat 200)).2
  have hnn:=b2Z (a1d (a07 (rdNum (rdNum (rdNum r).2).2).2).2).2
  have hn:=of_decide_eq_false hn
  have e:(a0O (min (rdNum (a1d (a07 (rdNum (rdNum (rdNum r).2).2).2).2).2).1.toNat 200) (rdNum (a1d (a07 (rdNum (rdNum (rdNum r).2).2).2).2).2).2).1.length=(rdNum (a1d (a07 (rdNum (rdNum (rdNum r).2).2).2).2).2).1.toNat:=by rw [hl];omega
  rw [h1.2,h2.2,h3.2,h4.2,h5.2,h6.2,h7.2]
  simp [a0Z,hk,a3R,b4G,a1X,e]
  rw [Int.max_eq_left hnn.1]
theorem c0Q {s:List UInt8} (h:(a01 s).2.2=0):s=a0Z (a01 s).1++(a01 s).2.1:=by
 unfold a01 at h ⊢
 split
 ·rename_i hb;rw [if_pos hb] at h;cases h
 ·rename_i hb
  exact (c94 (r:=⟨s,false⟩) (by simpa using hb)).2.2
theorem b9E {s:List UInt8} (h:(a1e s).2.2=0):s=a0g (a1e s).1++(a1e s).2.1:=by
 unfold a1e at h ⊢
 cases hn:takeN s with
 |none=>simp [hn] at h
 |some q=>exact a6g hn
theorem a7z {s:List UInt8} (h:(a2b s).2=true):a0E (a2b s).1=s:=by
 unfold a2b at h ⊢
 split
 ·rename_i c;rw [if_pos c] at h;cases h
 ·rename_i c
  rw [if_neg c] at h
  have c1:(a1e s).2.2=0:=by
   refine Classical.byContradiction fun q=>c (.inl q)
  have h1:=b9E c1
  split
  ·rename_i c2
   rw [if_pos c2] at h
   simp only [Bool.and_eq_true,decide_eq_true_eq] at h
   have h2:=b9E h.1.1
   rw [h.1.2] at h2
   rw [c2] at h1
   simp only [a0E,if_true,Int.toNat_natCast]
   rw [List.append_nil] at h2
   exact (congrArg (a0g 1++·) h2.symm).trans h1.symm
  ·rename_i c2
   rw [if_neg c2] at h
   simp only [Bool.and_eq_true,decide_eq_true_eq] at h
   have h2:=c0Q h.1.1
   rw [h.1.2,List.append_nil] at h2
   have c3:(a1e s).1=0:=by
    have:¬1<(a1e s).1:=fun q=>c (.inr q)
    omega
   rw [c3] at h1
   simp only [a0E,Bool.false_eq_true,if_false]
   rw [<-h2]
   exact h1.symm
theorem a5m {s t r:List UInt8} (h:a2L s=some (t,r)):s=a03 t++r/\t.length<=700:=by
 unfold a2L at h
 cases hn:takeN s with
 |none=>simp [hn] at h
 |some q=>
  obtain ⟨n,q⟩:=q
  simp only [hn] at h
  split at h
  ·cases h
  ·rename_i hc
   split at h
   ·rename_i hs
    have hs1:=a6g hn
    simp only [Option.some.injEq,Prod.mk.injEq] at h
    obtain ⟨ht,hr⟩:=h
    have hl:t.length=n:=by rw [<-ht];simp;omega
    have e1:s.take (s.length-q.length)=a0g n:=by
     conv=>lhs;rw [hs1]
     simp
    rw [e1,ht] at hs
    refine ⟨?_,by omega⟩
    have e2:q=a1x (ofN (a0g n++t))++(t++r):=by
     rw [<-hs,<-hr,<-ht]
     have:q.take (4+n)=q.take 4++(q.take (4+n)).drop 4:=by
      conv=>lhs;rw [<-List.take_append_drop 4 (q.take (4+n))]
      rw [List.take_take]
      congr 2
      omega
     rw [<-List.append_assoc,<-this,List.take_append_drop]
    rw [a03,if_neg (by omega),hl]
    conv=>lhs;rw [hs1,e2]
    simp
   ·cases h
open Go Go.Proofs
def b3f:List AV->Option (Prop×AV):=t1 okF fun e:a0k=>a27 e
@[simp] theorem d6K {l:List AV}:b3f l=(t1 okF fun e:a0k=>a27 e) l:=(rfl)
def b3g:List AV->Option (Prop×AV):=t1 (fun s=>s.length<4611686018427387904) fun s:List UInt8=>a3v s
@[simp] theorem d6L {l:List AV}:b3g l=(t1 (fun s=>s.length<4611686018427387904) fun s:List UInt8=>a3v s) l:=(rfl)
def FT2:CT:=(164,.pu b3f)::(205,.pu b3g)::FT1
theorem c71:a1k Tryz.prog FT2:=⟨a0n fun e h=>c3R e h,
 a0n fun s h=>c6I s h,c3Q⟩
@[simp] theorem d2h:a0b FT2 164=some (.pu b3f):=(rfl)
@[simp] theorem d2i:a0b FT2 205=some (.pu b3g):=(rfl)
@[simp] theorem e2a {n:Nat} (h:(n==164||n==205)=false):a0b FT2 n=a0b FT1 n:=by
 simp only [Bool.or_eq_false_iff,beq_eq_false_iff_ne,ne_eq] at h
 simp [FT2,a0b,h]
def a0P (s:List UInt8):a0k×Nat×Bool:=
 match a2L s with
 |none=>(zeroE,0,false)
 |some (t,_)=>if (a2b t).2 then ((a2b t).1,(a0j (a2b t).1).1.length/32,a8a s (a0j (a2b t).1).1) else ((a2b t).1,0,false)
def a18 (r:a0k×Nat×Bool):AV:=.t [(true,a0q .old r.1),(false,[.raw (.int .i64 r.2.1)]),(false,[.raw (.bool r.2.2)])]
theorem a4Z:∀{l:List (List UInt8)},(∀x∈l,x.length=32)->l.flatten.length=32*l.length
 |[],_=>rfl
 |x::l,h=>by
  have h1:=h x List.mem_cons_self
  have h2:=a4Z (l:=l) fun y hy=>h y (List.mem_cons_of_mem _ hy)
  simp only [List.flatten_cons,List.length_append,List.length_cons]
  omega
theorem a4i (x:a0k):(a0j x).1.length<=800:=by
 unfold a0j
 split
 ·simp
 ·rename_i h
  have h1:=a0G (a0E x).length
  have l1:(a1x (ofN (a0g (a0E x).length++a0E x))).length=4:=rfl
  simp only [a8b,a03,if_neg h,List.length_append,List.length_replicate,l1,b0t]
  omega
theorem a7A {s:List UInt8} (h:(a0P s).2.2=true):1<=(a0P s).2.1/\32*(a0P s).2.1<=s.length/\(a0P s).2.1<=25:=by
 unfold a0P at h ⊢
 cases hq:a2L s with
 |none=>simp [hq] at h
 |some q=>
  obtain ⟨t,r⟩:=q
  obtain ⟨hsp,ht7⟩:=a5m hq
  simp only [hq] at h ⊢
  split
  ·rename_i hr
   rw [if_pos hr] at h
   have hp:=a7z hr
   simp only at h ⊢
   have e:(a0j (a2b t).1).1=a8b (a03 t):=by rw [a0j,hp,if_neg (by omega)]
   have hl:=a4i (a2b t).1
   rw [e] at h hl ⊢
   have hpre:(a8b (a03 t)).length<=s.length:=by
    have:=List.isPrefixOf_iff_prefix.1 h
    exact this.length_le
   have h5:5<=(a03 t).length:=by
    rw [a03,if_neg (by omega)]
    have l1:(a1x (ofN (a0g t.length++t))).length=4:=rfl
    have l2:1<=(a0g t.length).length:=by
     show 1<=(a00 9 t.length).length
     rw [a00]
     split<;>simp
    simp only [List.length_append,l1]
    omega
   have hm:(a8b (a03 t)).length=(a03 t).length+b0t (a03 t).length:=by simp [a8b]
   unfold b0t at hm
   omega
  ·rename_i hr
   rw [if_neg hr] at h
   cases h
theorem c6J (l:List (List UInt8)) (hl:∀x∈l,x.length=32) (hn:l.length<1000000):PEv Tryz.prog 175 [Arg.enc l] (a18 (a0P (l.take 23).flatten)):=by
 refine a0e mixed c71 Tryz.func175 e8J e8K (by kernel_rfl) (by simp [a18,a0q,a0f]) (by simp) ?_
 obtain ⟨m,hm⟩:∃m,m=min l.length 23:=⟨_,rfl⟩
 have hmi:(if (23:Int)<l.length then (23:Int) else l.length)=(m:Int):=by split<;>omega
 have ht:l.take 23=l.take m:=by
  rw [hm]
  by_cases h:l.length<=23
  ·rw [Nat.min_eq_left h,List.take_of_length_le h,List.take_length]
  ·rw [Nat.min_eq_right (by omega)]
 have htr:List.take m (a0a l)=a0a (l.take m):=by simp [a0a]
 have hf:(l.take m).flatten.length=32*m:=by
  rw [a4Z fun x hx=>hl x (List.mem_of_mem_take hx),List.length_take]
  omega
 have hml:m<=l.length:=by omega
 have f8B:m<=23:=by omega
 rw [ht]
 obtain ⟨s,hs⟩:∃s,s=(l.take m).flatten:=⟨_,rfl⟩
 rw [<-hs] at hf ⊢
 have b1:(l.take m).length<1000000:=by rw [List.length_take];omega
 have b2:(l.take m).flatten.length<=140737488355328:=by rw [<-hs];omega
 have b3:s.length<4611686018427387904:=by omega
 have b1':m<1000000:=by omega
 have b2':(List.take m (List.map List.length l)).sum<=140737488355328:=by simpa using b2
 cases hq:a2L s with
 |none=>
  have e1:a1v s=.t [(false,[.str []]),(false,[.str []]),(false,[.raw (.bool false)])]:=by simp [a1v,hq]
  have e2:a0P s=(zeroE,0,false):=by simp [a0P,hq]
  simp [d5p,hmi,hml,htr,<-hs,b1',b2',b3,e1,e2,a18,a0q,a0f,zeroE,a0V]
 |some q=>
  obtain ⟨t,r⟩:=q
  have e1:a1v s=.t [(false,[.str t]),(false,[.str r]),(false,[.raw (.bool true)])]:=by simp [a1v,hq]
  obtain ⟨hsp,ht7⟩:=a5m hq
  have b4:t.length<4611686018427387904:=by omega
  rcases e3:a2b t with ⟨x,ok⟩
  have e3':a3v t=.t [(true,a0q .old x),(false,[.raw (.bool ok)])]:=by simp [a3v,e3]
  cases ok
  ·have e2:a0P s=(x,0,false):=by simp [a0P,hq,e3]
   simp [d5p,hmi,hml,htr,<-hs,b1',b2',b3,b4,e1,e2,e3',a18,a0q,a0f]
  ·have e2:a0P s=(x,(a0j x).1.length/32,a8a s (a0j x).1):=by simp [a0P,hq,e3]
   have hx:=b9D (s:=t) (by omega) (by rw [e3])
   rw [e3] at hx
   simp only at hx
   have e4:a27 x=.t [(false,[.str (a0j x).1]),(false,[.raw (.int .i64 (a0j x).2)])]:=rfl
   generalize hb:(a0j x).1=b at e2 e4
   simp [d5p,Call.operands,hmi,hml,htr,<-hs,b1',b2',b3,b4,e1,e2,e3',e4,hx,a18,a0q,a0f]
   have hbl:=a4i x
   rw [hb] at hbl
   rw [a0d]<;>omega
open Go Go.Proofs
def secs (l:List (List UInt8)):Prop:=∀x∈l,x.length=32
def b3h:List AV->Option (Prop×AV):=t1 (fun l=>secs l/\l.length<1000000) fun l:List (List UInt8)=>a18 (a0P (l.take 23).flatten)
@[simp] theorem d6M {l:List AV}:b3h l=(t1 (fun l=>secs l/\l.length<1000000) fun l:List (List UInt8)=>a18 (a0P (l.take 23).flatten)) l:=(rfl)
def FT3:CT:=(175,.pu b3h)::FT2
theorem c72:a1k Tryz.prog FT3:=⟨a0n fun l h=>c6J l h.1 h.2,c71⟩
@[simp] theorem d2j:a0b FT3 175=some (.pu b3h):=(rfl)
@[simp] theorem e2b {n:Nat} (h:(n==175)=false):a0b FT3 n=a0b FT2 n:=by
 simp only [Bool.or_eq_false_iff,beq_eq_false_iff_ne,ne_eq] at h
 simp [FT3,a0b,h]
def a1J:Nat->List (List UInt8)->Nat->List a0k×Nat
 |0,_,a=>([],a)
 |k+1,l,a=>if l=[] then ([],a) else
  if (a0P (l.take 23).flatten).2.2 then
   ((a0P (l.take 23).flatten).1::(a1J k (l.drop (a0P (l.take 23).flatten).2.1) (a+(a0P (l.take 23).flatten).2.1)).1,(a1J k (l.drop (a0P (l.take 23).flatten).2.1) (a+(a0P (l.take 23).flatten).2.1)).2)
  else ([],a)
def a2C (d:a0l):List a0k×Nat×Int:=if a2d d=true then ((a1J d.safe.length d.safe 0).1,(a1J d.safe.length d.safe 0).2,0) else ([],0,1)
def a8I (r:List a0k×Nat×Int):AV:=.t [(false,[.nw 97 13 (a0a r.1)]),(false,[.raw (.int .i64 r.2.1)]),(false,[.raw (.int .i64 r.2.2)])]
theorem a1Y {d:a0l} (h:a2d d=true):secs d.safe/\1<=d.safe.length/\d.safe.length<=400:=by
 simp only [a2d,Bool.and_eq_true,decide_eq_true_eq,List.all_eq_true] at h
 obtain ⟨⟨⟨⟨h1,h2⟩,_⟩,h3⟩,_⟩:=h
 exact ⟨fun x hx=>by simpa [a4H] using h3 x hx,h1,h2⟩
theorem c3T (d:a0l) (h1:d.safe.length<1000000) (h2:d.wait.length<1000000):PEv Tryz.prog 130 [Arg.enc d] (a8I (a2C d)):=by
 refine a0e mixed c72 Tryz.func130 e7D e7E (by kernel_rfl) (by simp [a8I]) (by simp) ?_
 cases hm:a2d d
 ·have e:a2C d=([],0,1):=by simp [a2C,hm]
  simp [e1i,h1,h2,hm,e,a8I]
 obtain ⟨b0M,hl1,hl4⟩:=a1Y hm
 have e:a2C d=((a1J d.safe.length d.safe 0).1,(a1J d.safe.length d.safe 0).2,0):=by simp [a2C,hm]
 obtain ⟨R,hR⟩:∃R,R=a1J d.safe.length d.safe 0:=⟨_,rfl⟩
 rw [<-hR] at e
 simp [e1i,h1,h2,hm,e,a8I]
 refine a1C (fun q st=>∃(a k:Nat) (acc:List a0k),a<=d.safe.length/\q=d.safe.length-a/\d.safe.length-a<=k/\st.s 1=.c (.pt (0,1) 0 0)/\st.s 3=.c (.raw (.int .i64 a))/\acc.length<=a/\
  acc++(a1J k (d.safe.drop a) a).1=R.1/\(a1J k (d.safe.drop a) a).2=R.2/\st.H (0,1)=.arr 25 2 false [[.sl .brw false (a0a d.safe),.sl .brw false (a0a d.wait)]]/\
  ((st.s 2=.c (.raw (.slice none 0 0))/\acc=[])\/∃id,st.s 2=.c (.so id 0 acc.length)/\st.H id=.arr 97 13 false (a0a acc))/\0<st.T/\a0D st.H st.T) d.safe.length ?_ ?_
 ·refine ⟨0,d.safe.length,[],by omega,by omega,by omega,?_⟩
  simp [hR]
  (repeat' (first|exact a1i.mono (Nat.zero_le _)|(refine a0D.set' ?_ (by simp))))
 rintro q st ⟨a,k,acc,ha,rfl,hk,q1,q3,hac,hr1,hr2,hD,hown,hT,hf⟩
 have hfu:∀k d,st.T<=k->st.H (k,d)=.a0h:=hf
 have f3p:∀d,st.H (st.T+1+1+1,d)=.a0h:=fun d=>hf _ _ (by omega)
 by_cases hlt:a<d.safe.length
 ·have hlt':(a:Int)<d.safe.length:=by omega
  have hle:a<=d.safe.length:=by omega
  have htr:List.drop a (a0a d.safe)=a0a (d.safe.drop a):=by simp [a0a]
  have hs2:secs (d.safe.drop a):=fun x hx=>b0M x (List.mem_of_mem_drop hx)
  have hs3:d.safe.length-a<1000000:=by omega
  obtain ⟨k,rfl⟩:∃j,k=j+1:=⟨k-1,by omega⟩
  have hne:d.safe.drop a≠[]:=by intro h;have:=congrArg List.length h;simp at this;omega
  rw [a1J,if_neg hne] at hr1 hr2
  obtain ⟨S,hS⟩:∃S,S=((d.safe.drop a).take 23).flatten:=⟨_,rfl⟩
  have hSl:S.length<=32*(d.safe.length-a):=by
   rw [hS,a4Z fun x hx=>hs2 x (List.mem_of_mem_take hx),List.length_take,List.length_drop]
   omega
  rw [<-hS] at hr1 hr2
  have hok:=@a7A S
  rcases hfr:a0P S with ⟨x,n,ok⟩
  rw [hfr] at hr1 hr2 hok
  simp only at hr1 hr2 hok
  cases ok
  ·simp only [Bool.false_eq_true,if_false] at hr1 hr2
   rcases hown with ⟨q2,rfl⟩|⟨id,q2,hid⟩
   ·simp [a9M,q1,q2,q3,hD,hlt',hle,htr,hs2,hs3,<-hS,hfr,a18,a0q,a0f,hfu]
    exact ⟨by simpa using hr1.symm,hr2⟩
   ·obtain ⟨p1,p2,p3⟩:=hf.arr hid
    simp [a9M,q1,q2,q3,hD,hlt',hle,htr,hs2,hs3,<-hS,hfr,a18,a0q,a0f,hfu,hid,p1,p2]
    simp only [List.append_nil] at hr1
    exact ⟨⟨hr1,by rw [hr1]⟩,hr2⟩
  ·simp only [if_true] at hr1 hr2
   obtain ⟨n1,n2,n3⟩:=hok rfl
   have hdd:(d.safe.drop a).drop n=d.safe.drop (a+n):=by rw [List.drop_drop]
   rw [hdd] at hr1 hr2
   have hr2':=hr2
   have hw:IntKind.wrap .i64 ((a:Int)+n)=((a+n:Nat):Int):=by rw [a0d]<;>omega
   rcases hown with ⟨q2,rfl⟩|⟨id,q2,hid⟩
   ·simp [a9M,q1,q2,q3,hD,hlt',hle,htr,hs2,hs3,<-hS,hfr,a18,a0q,a0f,hfu,f3p,hw]
    refine ⟨d.safe.length-(a+n),by omega,a+n,by omega,rfl,k,by omega,by simp,[x],by simp;omega,?_,hr2',⟨_,_,⟨⟨rfl,rfl⟩,rfl⟩,?_⟩,?_⟩
    ·simpa [hdd] using hr1
    ·simp [a0a,a0q,a0f]
    ·repeat' (first|exact hf.mono (by first|omega|(simp<;>omega))|(refine a0D.set' ?_ (by first|omega|(simp<;>omega))))
   ·obtain ⟨p1,p2,p3⟩:=hf.arr hid
    have p4:∀d,((st.T+1+1+1,d)=id)=False:=fun d=>p1 _ d (by omega)
    have p5:∀d,(id=(st.T+1+1+1,d))=False:=fun d=>p2 _ d (by omega)
    have p6:∀d,((st.T+1,d)=id)=False:=fun d=>p1 _ d (by omega)
    have p7:∀d,(id=(st.T+1,d))=False:=fun d=>p2 _ d (by omega)
    simp [a9M,q1,q2,q3,hD,hlt',hle,htr,hs2,hs3,<-hS,hfr,a18,a0q,a0f,hfu,f3p,hid,p1,p2,p4,p5,p6,p7,hw]
    refine ⟨⟨by omega,by omega⟩,d.safe.length-(a+n),by omega,a+n,by omega,rfl,k,by omega,by simp,acc++[x],by simp;omega,by simpa using hr1,hr2',?_,⟨_,_,⟨⟨rfl,rfl⟩,by simp⟩,?_⟩,?_⟩
    ·intro h
     rw [<-h,hD] at hid
     simp at hid
    ·simp [a0a,a0q,a0f]
    ·repeat' (first|exact hf.mono (by first|omega|(simp<;>omega))|(refine a0D.set' ?_ (by first|omega|(simp<;>omega))))
 ·have:a=d.safe.length:=by omega
  subst this
  have hd:d.safe.drop d.safe.length=[]:=List.drop_length
  have hr3:(a1J k (d.safe.drop d.safe.length) d.safe.length)=([],d.safe.length):=by
   rw [hd]
   cases k with
   |zero=>rfl
   |succ k=>rw [a1J,if_pos rfl]
  rw [hr3] at hr1 hr2
  simp only [List.append_nil] at hr1 hr2
  rcases hown with ⟨q2,rfl⟩|⟨id,q2,hid⟩
  ·simp [a9M,q1,q2,q3,hD,<-hr1,<-hr2]
  ·simp [a9M,q1,q2,q3,hD,<-hr1,<-hr2,hid]
open Go Go.Proofs
def noD:a0l:=⟨[],[]⟩
def a7N (s:List UInt8) (i:Nat):List UInt8:=(s.drop (32*i)).take 32
def b9F (s:List UInt8) (at_:Int):Nat->Nat->a0l->a0l×Int
 |0,_,d=>(d,0)
 |k+1,i,d=>if (b21 d (at_+i) (a7N s i)).2=0 then b9F s at_ k (i+1) (b21 d (at_+i) (a7N s i)).1 else (noD,(b21 d (at_+i) (a7N s i)).2)
def a1O (d:a0l) (at_:Int) (e:a0k):a0l×Int×Int:=
 if a2d d=true/\a0H e=true/\0<=at_ then
  if (a0j e).2=0 then
   if (((a0j e).1.length/32:Nat):Int)>(d.safe.length:Int)-min at_ (d.safe.length:Int) then (noD,0,6)
   else if (b9F (a0j e).1 at_ ((a0j e).1.length/32) 0 d).2=0 then ((b9F (a0j e).1 at_ ((a0j e).1.length/32) 0 d).1,at_+((a0j e).1.length/32:Nat),0)
   else (noD,0,(b9F (a0j e).1 at_ ((a0j e).1.length/32) 0 d).2)
  else (noD,0,(a0j e).2)
 else (noD,0,1)
def a2i (r:a0l×Int×Int):AV:=.t [(true,a0z r.1),(false,[.raw (.int .i64 r.2.1)]),(false,[.raw (.int .i64 r.2.2)])]
theorem a8c {e:a0k} (h:(a0j e).2=0):1<=(a0j e).1.length/32/\32*((a0j e).1.length/32)=(a0j e).1.length/\(a0j e).1.length/32<=25:=by
 have hl:=a4i e
 unfold a0j at h hl ⊢
 split at h
 ·cases h
 ·rename_i h7
  rw [if_neg h7] at hl ⊢
  have h5:5<=(a03 (a0E e)).length:=by
   rw [a03,if_neg (by omega)]
   have l1:(a1x (ofN (a0g (a0E e).length++a0E e))).length=4:=rfl
   have l2:1<=(a0g (a0E e).length).length:=by
    show 1<=(a00 9 (a0E e).length).length
    rw [a00]
    split<;>simp
   simp only [List.length_append,l1]
   omega
  have hm:(a8b (a03 (a0E e))).length=(a03 (a0E e)).length+b0t (a03 (a0E e)).length:=by simp [a8b]
  unfold b0t at hm
  simp only at hl ⊢
  omega
theorem a42 {d:a0l} (h:a2d d=true):d.wait.length<=400:=by
 simp only [a2d,Bool.and_eq_true,decide_eq_true_eq] at h
 exact h.1.1.2
theorem b3i (d:a0l) (n:Int) (s:List UInt8):(b21 d n s).1.safe.length<=d.safe.length/\(b21 d n s).1.wait.length<=d.wait.length+1:=by
 unfold b21
 repeat' split
 all_goals simp
def c6K:List AV->Option (Prop×AV):=t1 (fun d:a0l=>d.safe.length<1000000/\d.wait.length<1000000) fun d:a0l=>a8I (a2C d)
def FT4:CT:=(130,.pu c6K)::FT3
theorem c73:a1k Tryz.prog FT4:=⟨a0n fun d h=>c3T d h.1 h.2,c72⟩
@[simp] theorem e2c {n:Nat} (h:(n==130)=false):a0b FT4 n=a0b FT3 n:=by
 simp only [Bool.or_eq_false_iff,beq_eq_false_iff_ne,ne_eq] at h
 simp [FT4,a0b,h]
theorem b5T (d:a0l) (at_:Int) (e:a0k) (h1:d.safe.length<1000000) (h2:d.wait.length<1000000) (h3:e.op.text.length<1000000) (h4:e.op.gone.length<1000000) (hat:at_<9223372036854775808) :
  PEv Tryz.prog 107 [Arg.enc d,.c (.raw (.int .i64 at_)),Arg.enc e] (a2i (a1O d at_ e)):=by
 refine a0e mixed c73 Tryz.func107 e69 e7a (by kernel_rfl) (by simp [a2i,a0z]) (by simp [a0q,a0f]) ?_
 have ho:okO e.op:=⟨by omega,by omega⟩
 cases hm:a2d d
 ·have er:a1O d at_ e=(noD,0,1):=by simp [a1O,hm]
  simp [c7N,a0q,a0f,h1,h2,hm,er,a2i,noD,a0z]
 cases he:a0H e
 ·have er:a1O d at_ e=(noD,0,1):=by simp [a1O,he]
  simp [c7N,a0q,a0f,h1,h2,hm,ho,he,er,a2i,noD,a0z]
 by_cases ha:at_<0
 ·have er:a1O d at_ e=(noD,0,1):=by rw [a1O,if_neg (by omega)]
  simp [c7N,a0q,a0f,h1,h2,hm,ho,he,ha,er,a2i,noD,a0z]
 have hof:=a4Y he h3 h4
 have er1:a1O d at_ e=if (a0j e).2=0 then
   if (((a0j e).1.length/32:Nat):Int)>(d.safe.length:Int)-min at_ (d.safe.length:Int) then (noD,0,6)
   else if (b9F (a0j e).1 at_ ((a0j e).1.length/32) 0 d).2=0 then ((b9F (a0j e).1 at_ ((a0j e).1.length/32) 0 d).1,at_+((a0j e).1.length/32:Nat),0)
   else (noD,0,(b9F (a0j e).1 at_ ((a0j e).1.length/32) 0 d).2)
  else (noD,0,(a0j e).2):=by rw [a1O,if_pos ⟨hm,he,by omega⟩]
 have hfk:=@a8c e
 have e4:a27 e=.t [(false,[.str (a0j e).1]),(false,[.raw (.int .i64 (a0j e).2)])]:=rfl
 rcases hf:a0j e with ⟨b,c⟩
 rw [hf] at er1 hfk e4
 simp only at er1 hfk e4
 by_cases hc:c=0
 rotate_left
 ·rw [if_neg hc] at er1
  simp [c7N,a0q,a0f,h1,h2,hm,ho,he,ha,hof,e4,hc,er1,a2i,noD,a0z]
 subst hc
 obtain ⟨k1,k2,k3⟩:=hfk rfl
 rw [if_pos rfl] at er1
 have e5:(b.length:Int).tdiv 32=((b.length/32:Nat):Int):=rfl
 obtain ⟨n,hn⟩:∃n,n=b.length/32:=⟨_,rfl⟩
 rw [<-hn] at er1 k1 k2 k3 e5
 have e6:IntKind.wrap .i64 (n:Int)=n:=by rw [a0d]<;>omega
 have e7:(if (d.safe.length:Int)<at_ then (d.safe.length:Int) else at_)=min at_ (d.safe.length:Int):=by omega
 have e8:IntKind.wrap .i64 ((d.safe.length:Int)-min at_ (d.safe.length:Int))=(d.safe.length:Int)-min at_ (d.safe.length:Int):=by rw [a0d]<;>omega
 obtain ⟨z,hz⟩:∃z,z=(d.safe.length:Int)-min at_ (d.safe.length:Int):=⟨_,rfl⟩
 rw [<-hz] at er1 e8
 by_cases hn2:z<n
 ·rw [if_pos (by omega)] at er1
  simp [c7N,a0q,a0f,h1,h2,hm,ho,he,ha,hof,e4,e5,e6,e7,e8,<-hz,hn2,er1,a2i,noD,a0z]
 rw [if_neg (by omega)] at er1
 have f8C:at_+n<=d.safe.length:=by omega
 simp [c7N,a0q,a0f,h1,h2,hm,ho,he,ha,hof,e4,e5,e6,e7,e8,<-hz,hn2,a2i,noD,a0z]
 obtain ⟨R,hR⟩:∃R,R=b9F b at_ n 0 d:=⟨_,rfl⟩
 rw [<-hR] at er1
 have c47:=a42 hm
 refine a1C (fun q st=>∃(i:Nat) (D:a0l),i<=n/\q=n-i/\st.s 1=.c (.raw (.int .i64 at_))/\st.s 3=.c (.pt (0,3) 0 0)/\st.s 6=.c (.pt (0,6) 0 0)/\st.s 9=.c (.str b)/\st.s 10=.c (.raw (.int .i64 n))/\st.s 49=.c (.raw (.int .i64 n))/\st.s 50=.c (.raw (.int .i64 i))/\
  st.H (0,6)=.arr 25 2 false [[.raw (.slice none 0 0),.raw (.slice none 0 0)]]/\b9F b at_ (n-i) i D=R/\D.safe.length<=d.safe.length/\D.wait.length<=d.wait.length+i/\
  ((i=0/\st.H (0,3)=.arr 25 2 false [[.sl .brw false (a0a D.safe),.sl .brw false (a0a D.wait)]])\/
   ∃j1 j2,j1≠j2/\st.H (0,3)=.arr 25 2 false [[.so j1 0 D.safe.length,.so j2 0 D.wait.length]]/\st.H j1=.arr 9 1 false (a0a D.safe)/\st.H j2=.arr 125 2 false (a0a D.wait))/\0<st.T/\a0D st.H st.T) n ?_ ?_
 ·refine ⟨0,d,by omega,by omega,?_⟩
  simp [hR]
  (repeat' (first|exact a1i.mono (Nat.zero_le _)|(refine a0D.set' ?_ (by simp))))
 rintro q st ⟨i,D,hi,rfl,q1,q3,q6,q9,q10,q49,q50,hH6,hap,hs,hwt,hD,hT,hfr⟩
 have hfu:∀k d,st.T<=k->st.H (k,d)=.a0h:=hfr
 by_cases hlt:i<n
 ·have hlt':(i:Int)<n:=by omega
  have w1:IntKind.wrap .i64 (at_+i)=at_+i:=by rw [a0d]<;>omega
  have w2:IntKind.wrap .i64 ((i:Int)*32)=((32*i:Nat):Int):=by rw [a0d]<;>omega
  have w3:IntKind.wrap .i64 ((i:Int)+1)=((i+1:Nat):Int):=by rw [a0d]<;>omega
  have w4:IntKind.wrap .i64 (((i:Int)+1)*32)=((32*i+32:Nat):Int):=by rw [a0d]<;>omega
  obtain ⟨lo,hlo⟩:∃x,x=32*i:=⟨_,rfl⟩
  obtain ⟨hi2,hhi⟩:∃x,x=32*i+32:=⟨_,rfl⟩
  rw [<-hlo] at w2
  rw [<-hhi] at w4
  have w5:lo<=hi2:=by omega
  have w6:hi2<=b.length:=by omega
  have b1:D.safe.length<1000000:=by omega
  have b2:D.wait.length<1000000:=by omega
  obtain ⟨l1,l2⟩:=b3i D (at_+i) (a7N b i)
  rw [show n-i=(n-(i+1))+1 by omega,b9F] at hap
  have b0M:(b.take hi2).drop lo=a7N b i:=by
   rw [a7N,List.drop_take,<-hlo,hhi,hlo]
   congr 1
   omega
  obtain ⟨Ds,Dw⟩:=D
  rcases hp:b21 ⟨Ds,Dw⟩ (at_+i) (a7N b i) with ⟨D2,c⟩
  have c48:∀d,st.H (st.T+1+1,d)=.a0h:=fun d=>hfr _ _ (by omega)
  simp only at b1 b2 hs hwt hD
  rw [hp] at hap l1 l2
  simp only at hap l1 l2
  by_cases hc:c=0
  ·rw [if_pos hc] at hap
   subst hc
   rcases hD with ⟨h0,hH3⟩|⟨j1,j2,hjj,hH3,hj1,hj2⟩
   ·simp [b08,q1,q3,q6,q9,q10,q49,q50,hH6,hH3,hlt',w1,w2,w3,w4,w5,w6,b1,b2,b0M,hp,a1l,a0z,hfu,c48]
    refine ⟨n-(i+1),by omega,i+1,by omega,rfl,rfl,D2,hap,by omega,by omega,⟨_,_,_,_,?_,⟨⟨⟨rfl,rfl⟩,rfl⟩,⟨rfl,rfl⟩,rfl⟩,?_,?_⟩,?_⟩
    ·simp
    ·simp
    ·simp
    ·have hf:=hfr
     repeat' (first|exact hf.mono (by first|omega|(simp<;>omega))|(refine a0D.set' ?_ (by first|omega|(simp<;>omega))))
   ·simp [b08,q1,q3,q6,q9,q10,q49,q50,hH6,hH3,hj1,hj2,hlt',w1,w2,w3,w4,w5,w6,b1,b2,b0M,hp,a1l,a0z,hfu,c48]
    refine ⟨n-(i+1),by omega,i+1,by omega,rfl,rfl,D2,hap,by omega,by omega,⟨_,_,_,_,?_,⟨⟨⟨rfl,rfl⟩,rfl⟩,⟨rfl,rfl⟩,rfl⟩,?_,?_⟩,?_⟩
    ·simp
    ·simp
    ·simp
    ·have hf:=hfr
     repeat' (first|exact hf.mono (by first|omega|(simp<;>omega))|(refine a0D.set' ?_ (by first|omega|(simp<;>omega))))
  ·rw [if_neg hc] at hap
   have er2:a1O d at_ e=(noD,0,c):=by rw [er1,<-hap,if_neg hc]
   rcases hD with ⟨h0,hH3⟩|⟨j1,j2,hjj,hH3,hj1,hj2⟩
   ·simp [b08,q1,q3,q6,q9,q10,q49,q50,hH6,hH3,hlt',w1,w2,w3,w4,w5,w6,b1,b2,b0M,hp,a1l,a0z,hfu,c48,hc,er2,noD]
   ·simp [b08,q1,q3,q6,q9,q10,q49,q50,hH6,hH3,hj1,hj2,hlt',w1,w2,w3,w4,w5,w6,b1,b2,b0M,hp,a1l,a0z,hfu,c48,hc,er2,noD]
 ·have:i=n:=by omega
  subst this
  rw [Nat.sub_self,b9F] at hap
  have w1:IntKind.wrap .i64 (at_+i)=at_+i:=by rw [a0d]<;>omega
  have er2:a1O d at_ e=(D,at_+i,0):=by rw [er1,<-hap,if_pos rfl]
  rcases hD with ⟨h0,hH3⟩|⟨j1,j2,hjj,hH3,hj1,hj2⟩
  ·omega
  ·simp [b08,q1,q3,q6,q9,q10,q49,q50,hH6,hH3,hj1,hj2,w1,er2]
   refine ⟨⟨?_,?_⟩,hjj⟩
   ·rintro rfl
    rw [hH6] at hj1
    simp at hj1
   ·rintro rfl
    rw [hH6] at hj2
    simp at hj2
open Go Go.Proofs
def b7q:List AV->Option (Prop×AV):=t0 (.c (.str blank))
@[simp] theorem e2d {l:List AV}:b7q l=(t0 (.c (.str blank))) l:=(rfl)
def FT5:CT:=(82,.pu b7q)::FT4
theorem c74:a1k Tryz.prog FT5:=⟨b5s a74,c73⟩
@[simp] theorem d6N:a0b FT5 82=some (.pu b7q):=(rfl)
@[simp] theorem e2e {n:Nat} (h:(n==82)=false):a0b FT5 n=a0b FT4 n:=by
 simp only [Bool.or_eq_false_iff,beq_eq_false_iff_ne,ne_eq] at h
 simp [FT5,a0b,h]
def a1N (at_:Int):List (List UInt8)->Nat->a0l->a0l×Int
 |[],_,d=>(d,0)
 |s::l,i,d=>if (i:Int)<at_\/s=blank then a1N at_ l (i+1) d
  else if (b21 d i blank).2=0 then a1N at_ l (i+1) (b21 d i blank).1 else (noD,(b21 d i blank).2)
def a10 (d:a0l) (at_:Int):a0l×Int:=
 if a2d d=true/\0<=at_ then (if (a1N at_ d.safe 0 d).2=0 then a3z (a1N at_ d.safe 0 d).1 else (noD,(a1N at_ d.safe 0 d).2)) else (noD,1)
theorem b9G (d:a0l) (at_:Int) (h1:d.safe.length<1000000) (h2:d.wait.length<1000000) :
  PEv Tryz.prog 76 [Arg.enc d,.c (.raw (.int .i64 at_))] (a1l (a10 d at_)):=by
 refine a0e mixed c74 Tryz.func76 f6U f6V (by kernel_rfl) (by simp [a1l,a0z]) (by simp) ?_
 cases hm:a2d d
 ·have er:a10 d at_=(noD,1):=by simp [a10,hm]
  simp [s76,h1,h2,hm,er,a1l,noD,a0z]
 by_cases ha:at_<0
 ·have er:a10 d at_=(noD,1):=by rw [a10,if_neg (by omega)]
  simp [s76,h1,h2,hm,ha,er,a1l,noD,a0z]
 obtain ⟨R,hR⟩:∃R,R=a1N at_ d.safe 0 d:=⟨_,rfl⟩
 have er1:a10 d at_=if R.2=0 then a3z R.1 else (noD,R.2):=by rw [a10,if_pos ⟨hm,by omega⟩,hR]
 have c47:=a42 hm
 obtain ⟨_,_,c7y⟩:=a1Y hm
 simp [s76,h1,h2,hm,ha,a1l,a0z]
 refine a1C (fun q st=>∃(i:Nat) (D:a0l),i<=d.safe.length/\q=d.safe.length-i/\st.s 1=.c (.raw (.int .i64 at_))/\st.s 2=.c (.pt (0,2) 0 0)/\st.s 4=.c (.pt (0,4) 0 0)/\st.s 18=.c (.sl .brw false (a0a d.safe))/\st.s 19=.c (.raw (.int .i64 d.safe.length))/\st.s 20=.c (.raw (.int .i64 i))/\
  st.H (0,4)=.arr 25 2 false [[.raw (.slice none 0 0),.raw (.slice none 0 0)]]/\a1N at_ (d.safe.drop i) i D=R/\D.safe.length<=d.safe.length/\D.wait.length<=d.wait.length+i/\
  (st.H (0,2)=.arr 25 2 false [[.sl .brw false (a0a D.safe),.sl .brw false (a0a D.wait)]]\/
   ∃j1 j2,j1≠j2/\st.H (0,2)=.arr 25 2 false [[.so j1 0 D.safe.length,.so j2 0 D.wait.length]]/\st.H j1=.arr 9 1 false (a0a D.safe)/\st.H j2=.arr 125 2 false (a0a D.wait))/\0<st.T/\a0D st.H st.T) d.safe.length ?_ ?_
 ·refine ⟨0,d,by omega,by omega,?_⟩
  simp [hR]
  (repeat' (first|exact a1i.mono (Nat.zero_le _)|(refine a0D.set' ?_ (by simp))))
 rintro q st ⟨i,D,hi,rfl,q1,q2,q4,q18,q19,q20,hH4,hap,hs,hwt,hD,hT,hfr⟩
 have hfu:∀k d,st.T<=k->st.H (k,d)=.a0h:=hfr
 have c48:∀d,st.H (st.T+1+1+1+1,d)=.a0h:=fun d=>hfr _ _ (by omega)
 obtain ⟨Ds,Dw⟩:=D
 simp only at hs hwt hD
 have b1:Ds.length<1000000:=by omega
 have b2:Dw.length<1000000:=by omega
 by_cases hlt:i<d.safe.length
 ·have hlt':(i:Int)<d.safe.length:=by omega
  have w3:IntKind.wrap .i64 ((i:Int)+1)=((i+1:Nat):Int):=by rw [a0d]<;>omega
  rw [List.drop_eq_getElem_cons hlt,a1N] at hap
  by_cases c1:(i:Int)<at_
  ·rw [if_pos (Or.inl c1)] at hap
   simp [b2l,q1,q2,q4,q18,q19,q20,hH4,hlt,hlt',c1,w3]
   exact ⟨d.safe.length-(i+1),by omega,i+1,by omega,rfl,by simp,⟨Ds,Dw⟩,hap,hs,by simp only;omega,by simpa using hD,by first|exact hfr|exact hfr.mono (by omega)⟩
  cases c2:decide (d.safe[i]=blank)
  rotate_left
  ·rw [if_pos (Or.inr (of_decide_eq_true c2))] at hap
   simp [b2l,q1,q2,q4,q18,q19,q20,hH4,hlt,hlt',c1,c2,w3]
   exact ⟨d.safe.length-(i+1),by omega,i+1,by omega,rfl,by simp,⟨Ds,Dw⟩,hap,hs,by simp only;omega,by simpa using hD,by first|exact hfr|exact hfr.mono (by omega)⟩
  ·rw [if_neg (by have:=of_decide_eq_false c2;simp [c1,this])] at hap
   obtain ⟨l1,l2⟩:=b3i ⟨Ds,Dw⟩ i blank
   rcases hp:b21 ⟨Ds,Dw⟩ i blank with ⟨D2,c⟩
   rw [hp] at hap l1 l2
   simp only at hap l1 l2
   by_cases hc:c=0
   ·rw [if_pos hc] at hap
    subst hc
    rcases hD with hH3|⟨j1,j2,hjj,hH3,hj1,hj2⟩
    ·simp [b2l,q1,q2,q4,q18,q19,q20,hH4,hlt,hlt',c1,c2,w3,hH3,b1,b2,hp,a1l,a0z,hfu,c48]
     refine ⟨d.safe.length-(i+1),by omega,i+1,by omega,rfl,by simp,D2,hap,by omega,by omega,⟨_,_,_,_,?_,⟨⟨⟨rfl,rfl⟩,rfl⟩,⟨rfl,rfl⟩,rfl⟩,?_,?_⟩,?_⟩
     ·simp
     ·simp
     ·simp
     ·have hf:=hfr
      repeat' (first|exact hf.mono (by first|omega|(simp<;>omega))|(refine a0D.set' ?_ (by first|omega|(simp<;>omega))))
    ·simp [b2l,q1,q2,q4,q18,q19,q20,hH4,hlt,hlt',c1,c2,w3,hH3,hj1,hj2,b1,b2,hp,a1l,a0z,hfu,c48]
     refine ⟨d.safe.length-(i+1),by omega,i+1,by omega,rfl,by simp,D2,hap,by omega,by omega,⟨_,_,_,_,?_,⟨⟨⟨rfl,rfl⟩,rfl⟩,⟨rfl,rfl⟩,rfl⟩,?_,?_⟩,?_⟩
     ·simp
     ·simp
     ·simp
     ·have hf:=hfr
      repeat' (first|exact hf.mono (by first|omega|(simp<;>omega))|(refine a0D.set' ?_ (by first|omega|(simp<;>omega))))
   ·rw [if_neg hc] at hap
    have er2:a10 d at_=(noD,c):=by rw [er1,<-hap,if_neg hc]
    rcases hD with hH3|⟨j1,j2,hjj,hH3,hj1,hj2⟩
    ·simp [b2l,q1,q2,q4,q18,q19,q20,hH4,hlt,hlt',c1,c2,w3,hH3,b1,b2,hp,a1l,a0z,hfu,c48,hc,er2,noD]
    ·simp [b2l,q1,q2,q4,q18,q19,q20,hH4,hlt,hlt',c1,c2,w3,hH3,hj1,hj2,b1,b2,hp,a1l,a0z,hfu,c48,hc,er2,noD]
 ·have:i=d.safe.length:=by omega
  subst this
  rw [List.drop_length,a1N] at hap
  have er2:a10 d at_=a3z ⟨Ds,Dw⟩:=by rw [er1,<-hap,if_pos rfl]
  rcases hD with hH3|⟨j1,j2,hjj,hH3,hj1,hj2⟩
  ·simp [b2l,q1,q2,q4,q18,q19,q20,hH4,hH3,b1,b2,er2,a1l,a0z,hfu,c48]
  ·simp [b2l,q1,q2,q4,q18,q19,q20,hH4,hH3,hj1,hj2,b1,b2,er2,a1l,a0z,hfu,c48]
open Go Go.Proofs
def b7r:List AV->Option (Prop×AV):=t2 (fun a _=>a.length<4611686018427387904) fun a b:List a0B=>.c (.raw (.bool (decide (a=b))))
@[simp] theorem e2f {l:List AV}:b7r l=(t2 (fun a _=>a.length<4611686018427387904) fun a b:List a0B=>.c (.raw (.bool (decide (a=b))))) l:=(rfl)
def FE0:CT:=(65,.pu b7r)::FT5
theorem c75:a1k Tryz.prog FE0:=⟨a0R fun a b h=>b1l a b h,c74⟩
@[simp] theorem d6O:a0b FE0 65=some (.pu b7r):=(rfl)
@[simp] theorem e2g {n:Nat} (h:(n==65)=false):a0b FE0 n=a0b FT5 n:=by
 simp only [Bool.or_eq_false_iff,beq_eq_false_iff_ne,ne_eq] at h
 simp [FE0,a0b,h]
theorem b7s (a b:OpV) (ha:a.gone.length<4611686018427387904):PEv Tryz.prog 24 [Arg.enc a,Arg.enc b] (.c (.raw (.bool (a2B a b)))):=by
 refine a0e mixed c75 Tryz.func24 f6y f6z (by kernel_rfl) (by simp) (by simp [a0f]) ?_
 have hz:=c7V a.after b.after
 cases c2:decide (a.site=b.site)
 ·simp [s24,a0f,a2B,hz,c2,ha]
 cases c3:decide (a.seq=b.seq)
 ·simp [s24,a0f,a2B,hz,c2,c3,ha]
 cases c4:decide (a.kind=b.kind)
 ·simp [s24,a0f,a2B,hz,c2,c3,c4,ha]
 cases c5:decide (a.after=b.after)
 ·rw [c5] at hz
  simp [s24,a0f,a2B,hz,c2,c3,c4,c5,ha]
 rw [c5] at hz
 cases c6:decide (a.text=b.text)
 ·simp [s24,a0f,a2B,hz,c2,c3,c4,c5,c6,ha]
 cases c1:decide (a.gone=b.gone)
 ·simp [s24,a0f,a2B,hz,c1,c2,c3,c4,c5,c6,ha]
 cases c7:decide (a.of_=b.of_)
 ·simp [s24,a0f,a2B,hz,c1,c2,c3,c4,c5,c6,c7,ha]
 cases c8:decide (a.num=b.num)
 ·simp [s24,a0f,a2B,hz,c1,c2,c3,c4,c5,c6,c7,c8,ha]
 ·simp [s24,a0f,a2B,hz,c1,c2,c3,c4,c5,c6,c7,c8,ha]
def b7t:List AV->Option (Prop×AV):=t2 (fun a _=>a.gone.length<4611686018427387904) fun a b:OpV=>.c (.raw (.bool (a2B a b)))
@[simp] theorem e2h {l:List AV}:b7t l=(t2 (fun a _=>a.gone.length<4611686018427387904) fun a b:OpV=>.c (.raw (.bool (a2B a b)))) l:=(rfl)
def FE1:CT:=(24,.pu b7t)::FE0
theorem d6P:a1k Tryz.prog FE1:=⟨a0R fun a b h=>b7s a b h,c75⟩
@[simp] theorem d6Q:a0b FE1 24=some (.pu b7t):=(rfl)
@[simp] theorem e2i {n:Nat} (h:(n==24)=false):a0b FE1 n=a0b FE0 n:=by
 simp only [Bool.or_eq_false_iff,beq_eq_false_iff_ne,ne_eq] at h
 simp [FE1,a0b,h]
def FE2:CT:=FE1
theorem d6R:a1k Tryz.prog FE2:=d6P
attribute [simp] FE2
open Go Go.Proofs
def c6L:List AV->Option (Prop×AV):=t1 (fun _=>True) fun e:a0B=>.g [.raw (.int .i64 e.site),.raw (.int .i64 e.seq)]
def FV1:CT:=(219,.pu c6L)::FP0
theorem a5T:a1k Tryz.prog FV1:=⟨a0n fun e _=>d5C e,c3x⟩
@[simp] theorem e2j {n:Nat} (h:(n==219)=false):a0b FV1 n=a0b FP0 n:=by
 simp only [Bool.or_eq_false_iff,beq_eq_false_iff_ne,ne_eq] at h
 simp [FV1,a0b,h]
structure CkV where
 sz:List (List Int×Int)
 ah:List (List Int×Int)
 all:Int
abbrev w64 (n:Int):Int:=IntKind.wrap .i64 n
def CkV.ahead (c:CkV) (s:Int):Int:=(lk c.ah [s]).getD 0
def CkV.note (c:CkV) (o:OpV):CkV:={c with ah:=pt c.ah [o.site] (w64 (c.ahead o.site+1))}
def CkV.add (c:CkV) (o:OpV):CkV:={c.note o with sz:=pt c.sz [o.site,o.seq] (a05 o.text),all:=w64 (c.all+a05 o.text)}
def a4q (c:CkV) (o:OpV):Bool×CkV:=
 if a0s o=false\/o.seq≠w64 (c.ahead o.site+1)\/wrB c.sz o.after=false then (false,c)
 else if (o.gone.any fun e=>!wrB c.sz e)=true then (false,c)
 else if o.kind=2 then ((lk c.sz [o.of_,o.num]).isSome,c.note o)
 else (decide ((c.add o).all<=200),c.add o)
theorem c95 (c:CkV) (o:OpV) (ho:okO o):VC Tryz.prog 166 [.c (.pt (0,1) 0 0),.g (Enc.row o)] (ckH c.sz c.ah c.all) (.c (.raw (.bool (a4q c o).1))) (ckH (a4q c o).2.sz (a4q c o).2.ah (a4q c o).2.all):=by
 refine a5O mixed a5T Tryz.func166 e6G e6H (by kernel_rfl) (by simp) (a1t ?_)
 obtain ⟨sz,ah,all⟩:=c
 generalize hR:a4q ⟨sz,ah,all⟩ o=R
 unfold a4q at hR
 cases c1:a0s o
 ·rw [if_pos (.inl c1)] at hR
  subst hR
  simp [d5c,a0f,c1,ho]
 cases c2:decide (o.seq=w64 ((lk ah [o.site]).getD 0+1))
 ·have c2':=of_decide_eq_false c2
  rw [if_pos (.inr (.inl c2'))] at hR
  subst hR
  simp [d5c,a0f,c1,c2,ho]
 have c2':=of_decide_eq_true c2
 simp [d5c,a0f,c1,c2,ho]
 refine c6m (b1b sz ah all o.after) (by kernel_rfl) ?_
 simp
 cases c3:wrB sz o.after
 ·rw [if_pos (.inr (.inr c3))] at hR
  subst hR
  simp
 rw [if_neg (by rintro (h|h|h)<;>first|(rw [c1] at h;cases h;done)|exact h c2'|(rw [show (CkV.mk sz ah all).sz=sz from rfl,c3] at h;cases h))] at hR
 simp
 refine a4w (c3i sz ah all o.gone ho.2) ?_
 simp only [show (CkV.mk sz ah all).sz=sz from rfl] at hR
 cases c4:o.gone.any fun e=>!wrB sz e
 rotate_left
 ·rw [if_pos c4] at hR
  subst hR
  simp
 rw [if_neg (by simp [c4])] at hR
 cases c5:decide (o.kind=2)
 ·rw [if_neg (of_decide_eq_false c5)] at hR
  subst hR
  simp [c5,CkV.add,CkV.note,CkV.ahead]
  exact ⟨Nat.lt_trans ho.1 (by omega),rfl⟩
 ·rw [if_pos (of_decide_eq_true c5)] at hR
  subst hR
  simp [c5,CkV.note,CkV.ahead]
@[simp] def vkC (c:CkV):List HO:=vkH c.sz c.ah c.all
theorem c96 (c:CkV) (o:OpV) (ho:okO o):VC Tryz.prog 165 [.g (Enc.row o),.c (.pt (0,0) 0 0)] (vkC c) (.c (.raw (.bool (!(a4q c o).1)))) (vkC (a4q c o).2):=by
 refine a5O mixed a5T Tryz.func165 e6E e6F (by kernel_rfl) (by simp) (a1t ?_)
 simp [e6D,a0f]
 refine a4w (c95 c o ho) ?_
 simp [a0f]
def ixG:CkV->Nat->List OpV->Int×CkV
 |c,_,[]=>(-1,c)
 |c,k,o::r=>if (a4q c o).1=true then ixG (a4q c o).2 (k+1) r else (k,(a4q c o).2)
theorem c97 (c:CkV) (l:List OpV) (hl:l.length<4611686018427387904) (ho:∀o∈l,okO o):VC Tryz.prog 187 [.c (.sl .brw false (a0a l)),.c (.fn 165 [.pt (0,0) 0 0])] (vkC c) (.c (.raw (.int .i64 (ixG c 0 l).1))) (vkC (ixG c 0 l).2):=by
 refine a5O mixed a5T Tryz.func187 d5r d5s (by kernel_rfl) (by simp) (a1t ?_)
 generalize hR:ixG c 0 l=R
 simp [e1s]
 refine vl (fun p:Nat×CkV=>p.1<=l.length/\ixG p.2 p.1 (l.drop p.1)=R)
  (fun p=>mkS [(0,.c (.sl .brw false (a0a l))),(1,.c (.fn 165 [.pt (0,0) 0 0])),(7,.c (.raw (.int .i64 l.length))),(8,.c (.raw (.int .i64 p.1)))] (vkC p.2)) (fun p=>l.length-p.1) (0,c) (by simpa using hR) (a0c rfl ?_) ?_
 ·simp
 rintro ⟨i,c⟩ ⟨hi,hx⟩ J hJ
 simp only at hi hx
 by_cases hlt:i<l.length
 ·have hw:IntKind.wrap .i64 ((i:Int)+1)=((i+1:Nat):Int):=by rw [a0d]<;>omega
  rw [List.drop_eq_getElem_cons hlt,ixG] at hx
  simp [a7p,hlt,a0f]
  refine a4w (c96 c l[i] (ho _ (List.getElem_mem hlt))) ?_
  cases hg:(a4q c l[i]).1
  ·rw [if_neg (by simp [hg])] at hx
   subst hx
   simp [a7p,hw,hg,a0f]
  ·rw [if_pos hg] at hx
   simp [a7p,hw,hg,a0f]
   refine hJ (i+1,(a4q c l[i]).2) ⟨by simp;omega,hx⟩ (by simp;omega) _ (a0c rfl ?_)
   simp
 ·simp [a7p,hlt]
  rw [<-hx,List.drop_eq_nil_of_le (by omega)]
  simp [ixG]
theorem c98 (c:CkV) (l:List OpV) (hl:l.length<4611686018427387904) (ho:∀o∈l,okO o):VC Tryz.prog 151 [.c (.sl .brw false (a0a l)),.c (.fn 165 [.pt (0,0) 0 0])] (vkC c) (.c (.raw (.bool (decide (0<=(ixG c 0 l).1))))) (vkC (ixG c 0 l).2):=by
 refine a5O mixed a5T Tryz.func151 d5l d5m (by kernel_rfl) (by simp) (a1t ?_)
 simp [e1n]
 refine a4w (c97 c l hl ho) ?_
 simp
def a04 (l:List OpV):Bool:=decide (l.length<=40)&&!decide (0<=(ixG ⟨[],[],0⟩ 0 l).1)
theorem b1s (l:List OpV) (hl:l.length<4611686018427387904) (ho:∀o∈l,okO o):PEv Tryz.prog 110 [Arg.enc l] (.c (.raw (.bool (a04 l)))):=by
 refine a0e mixed a5T Tryz.func110 e6s e6t (by kernel_rfl) (by simp) (by simp) ?_
 unfold a04
 by_cases h:l.length<=40
 ·have h':(l.length:Int)<=40:=by omega
  simp [e1f,h,h']
  refine a4w (c98 ⟨[],[],0⟩ l hl ho) ?_
  simp
 ·have h':¬(l.length:Int)<=40:=by omega
  simp [e1f,h,h']
open Go Go.Proofs
abbrev iv (n:Int):AV:=.c (.raw (.int .i64 n))
abbrev bv (b:Bool):AV:=.c (.raw (.bool b))
theorem b5U (l:List OpV) (hl:l.length<4611686018427387904):PEv Tryz.prog 113 [.c (.sl .old false (a0a l))] (.c (.sl .old true (a0a l))):=by
 refine a0e mixed a5T Tryz.func113 e7i e7j (by kernel_rfl) (by simp) (by simp) ?_
 simp [e7h]
theorem c0R (l:List Int) (hl:l.length<4611686018427387904):PEv Tryz.prog 108 [.c (.sl .old false (a0a l))] (.c (.sl .old true (a0a l))):=by
 refine a0e mixed a5T Tryz.func108 e7c e7d (by kernel_rfl) (by simp) (by simp) ?_
 simp [e7b]
theorem c3U (l:List OpV) (o:OpV) (hl:l.length<1000000):PEv Tryz.prog 109 [.c (.sl .old false (a0a l)),.g (a0f .old o)] (.c (.nw 53 11 (a0a (l++[o])))):=by
 refine a0e mixed a5T Tryz.func109 e6q e6r (by kernel_rfl) (by simp) (by simp [a0f]) ?_
 simp [e1e,a0f]
 refine a1f (args':=[.c (.sl .brw false (a0a l))]) ?_ (b5U l (by omega)) (by simp) (by simp) ?_
 ·simp
 simp [e1e,a0f,a1g,a4G]
 exact ⟨by omega,by omega⟩
def a1K (s:Int):List OpV->Nat
 |[]=>0
 |o::r=>(if o.site=s then 1 else 0)+a1K s r
theorem a7B (s:Int) (l:List OpV) (o:OpV):a1K s (l++[o])=a1K s l+(if o.site=s then 1 else 0):=by
 induction l with
 |nil=>simp [a1K]
 |cons a r ih=>simp [a1K,ih,Nat.add_assoc]
theorem a8Z (s:Int) (l:List OpV):a1K s l<=l.length:=by
 induction l with
 |nil=>simp [a1K]
 |cons a r ih=>simp only [a1K,List.length_cons];split<;>omega
theorem c99 (l:List OpV) (s:Int) (hl:l.length<1000000):PEv Tryz.prog 160 [Arg.enc l,Arg.enc s] (iv (1+a1K s l)):=by
 refine a0e mixed a5T Tryz.func160 e6y e6z (by kernel_rfl) (by simp) (by simp) ?_
 simp [e6x]
 refine vl (fun i:Nat=>i<=l.length) (fun i=>mkS [(1,iv s),(5,iv (1+a1K s (l.take i))),(8,.c (.sl .brw false (a0a l))),(9,iv l.length),(10,iv i)] []) (fun i=>l.length-i) 0 (by simp) (a0c rfl ?_) ?_
 ·simp [a1K]
 rintro i hi J hJ
 by_cases hlt:i<l.length
 ·have hw:IntKind.wrap .i64 ((i:Int)+1)=((i+1:Nat):Int):=by rw [a0d]<;>omega
  have ht:a1K s (l.take (i+1))=a1K s (l.take i)+(if l[i].site=s then 1 else 0):=by rw [<-a7B,List.take_append_getElem hlt]
  have hn:=a8Z s (l.take i)
  have hn2:(l.take i).length<=i:=by simp;omega
  have hw2:IntKind.wrap .i64 (1+(a1K s (l.take i):Int)+1)=1+((a1K s (l.take i)+1:Nat):Int):=by rw [a0d]<;>omega
  simp [c2U,hlt,a0f,hw]
  refine ⟨fun e=>hJ (i+1) (by omega) (by omega) _ (a0c rfl ?_),fun e=>hJ (i+1) (by omega) (by omega) _ (a0c rfl ?_)⟩
  ·simp [hw,hw2,ht,e]
  ·simp [hw,ht,e]
 ·obtain rfl:i=l.length:=by omega
  simp [c2U]
open Go
variable {P:Program}
def d6S (P:Program) (fn:Func) (ret:AV) (e:AEx) (st:St):Prop:=∃v,a8T P v st/\c1N P fn ret e v
theorem e2k {C:Ctx P} {n:Nat} {K:St->Prop} {a:Act} {w:World} (h:a2a C n (fun st=>∃v,a8T P v st/\K v) a w):a2a C n K a w:=by
 obtain ⟨h1,ρ,st,hr,v,hs,hk⟩:=h
 rcases hs with rfl|⟨hn,hs⟩
 ·exact ⟨h1,ρ,_,hr,hk⟩
 ·obtain ⟨ρ',hr'⟩:=hs C (hr.nf hn) ρ a w hr
  exact ⟨h1,ρ',v,hr',hk⟩
theorem a3G (hm:P.follows .mixedOrders=true) {F:CT} (hF:a1k P F) {f:FuncId} {fn:Func} {s:SC} {args:List AV} {ret:AV} (hf:P.funcs[f]?=some fn) (hs:a0o fn.body s=some (unK s,true))
  (hok:a0I a0m fn 0=true) (hle:Nat.ble args.length fn.ntmps=true) (hret:∀c∈ret.flat,b0r c) (harg:∀x∈args,∀c∈x.flat,VOK c) (h:a2K P F s (d6S P fn ret) (a7U args)):PEv P f args ret:=by
 cases hb:fn.body with
 |none=>rw [hb] at hs;cases hs
 |some c=>
  rw [hb] at hs
  simp only [a0o,Option.map_some,Option.some.injEq,Prod.mk.injEq] at hs
  simp only [a0I,hb,Bool.and_eq_true,decide_eq_true_eq,bne_iff_ne,ne_eq] at hok
  obtain ⟨⟨hname,hcode⟩,_⟩:=hok
  have hle:=Nat.le_of_ble_eq_true hle
  refine ⟨⟨by simp [a4s,hf,hb,hname],hret,harg⟩,fun w hI G vs hsz hargs nm inj=>?_⟩
  refine calls_of_wp hf hb (Code.wp_mono (fun e a w' q=>?_) (a2x a0m (a9z hm) c fn.ntmps _ a0Q (a7U args) _ w hcode (by simp;omega) (b6P hsz hargs) (b0Y hF hs.1 hs.2 h)))
  have fin:a2a (Ctx.of w hI G) fn.ntmps (fun st=>∃res,c0h P st fn.results.toList=some res/\exV st.H res ret/\(a2p res.flat).Nodup) a w'->
    a.defers=[]/\∃v,(results fn a.tmps).run P w'=.ok v w'/\(∃v',Ending.returned v=.returned v'/\∃ρ,a2v (Ctx.of w hI G) (adH nm 0 ret.flat a0t) ρ w'/\
     a3o w' (Fr (Ctx.of w hI G) (adH nm 0 ret.flat a0t) ρ) (adH nm 0 ret.flat a0t) ρ (ret.ad nm) v'):=fun ⟨_,ρ,st,hr,res,g1,g2,g3⟩=>by
   obtain ⟨v,h1,h2⟩:=a4P hr g1
   obtain ⟨ρ',h3,h4⟩:=a7T hr h2 hret g2 g3 nm inj
   exact ⟨hr.a7K,v,h1,v,rfl,ρ',h3,h4⟩
  cases e with
  |normal=>exact fin (a2a.mono (e2k q) fun st hs=>hs.2)
  |ret=>exact fin (a2a.mono (e2k q) fun st hs=>hs.2)
  |exit id=>
   obtain ⟨_,_,_,_,hs⟩:=q
   obtain ⟨v,_,hs⟩:=hs
   exact hs.1.elim
  |_=>exact q.elim
theorem a0A {fn:Func} {ret:AV} {e:AEx} {st:St} (v:St) (h:a8T P v st) (hk:c1N P fn ret e v):d6S P fn ret e st:=⟨v,h,hk⟩
theorem d0a {fn:Func} {ret:AV} {e:AEx} {st st':St} (h:st=st'):d6S P fn ret e st=d6S P fn ret e st':=by rw [h]
attribute [congr] d0a
open Go Go.Proofs
theorem b9H (l:List Int) (n:Int) (hl:l.length<4611686018427387904):PEv Tryz.prog 112 [Arg.enc l,Arg.enc n] (iv (idxOf (fun x=>decide (n=x)) 0 l)):=by
 refine a0e mixed a5T Tryz.func112 e7f e7g (by kernel_rfl) (by simp) (by simp) ?_
 simp [e7e]
 refine vl (fun i:Nat=>i<=l.length/\idxOf (fun x=>decide (n=x)) i (l.drop i)=idxOf (fun x=>decide (n=x)) 0 l)
  (fun i=>mkS [(0,.c (.sl .brw false (a0a l))),(1,iv n),(7,iv l.length),(8,iv i)] []) (fun i=>l.length-i) 0 (by simp) (a0c rfl ?_) ?_
 ·simp
 rintro i ⟨hi,hx⟩ J hJ
 by_cases hlt:i<l.length
 ·have hw:IntKind.wrap .i64 ((i:Int)+1)=((i+1:Nat):Int):=by rw [a0d]<;>omega
  rw [List.drop_eq_getElem_cons hlt,idxOf] at hx
  simp [c20,hlt,hw]
  refine ⟨fun e=>by rw [<-hx,if_pos (by simp [e])],fun e=>hJ (i+1) ⟨by omega,by rw [<-hx,if_neg (by simp [e])]⟩ (by omega) _ (a0c rfl ?_)⟩
  simp
 ·simp [c20,hlt]
  rw [<-hx,List.drop_eq_nil_of_le (by omega)]
  rfl
theorem c3V (n:Int) (l:List Int):(0<=idxOf (fun x=>decide (n=x)) 0 l)↔n∈l:=by
 rw [a3P];simp
def b3j:List AV->Option (Prop×AV):=t2 (fun l _=>l.length<4611686018427387904) fun (l:List Int) (n:Int)=>iv (idxOf (fun x=>decide (n=x)) 0 l)
@[simp] theorem d6T {l:List AV}:b3j l=(t2 (fun l _=>l.length<4611686018427387904) fun (l:List Int) (n:Int)=>iv (idxOf (fun x=>decide (n=x)) 0 l)) l:=(rfl)
def FV2:CT:=(112,.pu b3j)::FV1
theorem c76:a1k Tryz.prog FV2:=⟨a0R fun l n h=>b9H l n h,a5T⟩
@[simp] theorem d2k:a0b FV2 112=some (.pu b3j):=(rfl)
@[simp] theorem e2l {n:Nat} (h:(n==112)=false):a0b FV2 n=a0b FV1 n:=by
 simp only [Bool.or_eq_false_iff,beq_eq_false_iff_ne,ne_eq] at h
 simp [FV2,a0b,h]
theorem b9I (l:List Int) (n:Int) (hl:l.length<4611686018427387904):PEv Tryz.prog 105 [Arg.enc l,Arg.enc n] (bv (decide (n∈l))):=by
 refine a0e mixed c76 Tryz.func105 e67 e68 (by kernel_rfl) (by simp) (by simp) ?_
 simp [e66,hl,c3V]
structure a0r where
 disk:a0l
 ops:List OpV
 ends:List Int
 deriving DecidableEq
def a0u (t:Tag) (r:a0r):List AC:=[.sl t false (a0a r.disk.safe),.sl t false (a0a r.disk.wait),.sl t false (a0a r.ops),.sl t false (a0a r.ends)]
def b3k:List AV->Option (Prop×AV):=t2 (fun l _=>l.length<4611686018427387904) fun (l:List Int) (n:Int)=>bv (decide (n∈l))
@[simp] theorem d6U {l:List AV}:b3k l=(t2 (fun l _=>l.length<4611686018427387904) fun (l:List Int) (n:Int)=>bv (decide (n∈l))) l:=(rfl)
def b3l:List AV->Option (Prop×AV):=t1 (fun l=>l.length<4611686018427387904/\∀o∈l,okO o) fun l:List OpV=>bv (a04 l)
@[simp] theorem d6V {l:List AV}:b3l l=(t1 (fun l=>l.length<4611686018427387904/\∀o∈l,okO o) fun l:List OpV=>bv (a04 l)) l:=(rfl)
def FV3:CT:=(105,.pu b3k)::(110,.pu b3l)::FV2
theorem d6W:a1k Tryz.prog FV3:=⟨a0R fun l n h=>b9I l n h,
 a0n fun l h=>b1s l h.1 h.2,c76⟩
@[simp] theorem d2l:a0b FV3 105=some (.pu b3k):=(rfl)
@[simp] theorem d2m:a0b FV3 110=some (.pu b3l):=(rfl)
@[simp] theorem e2m {n:Nat} (h:(n==105||n==110)=false):a0b FV3 n=a0b FV2 n:=by
 simp only [Bool.or_eq_false_iff,beq_eq_false_iff_ne,ne_eq] at h
 simp [FV3,a0b,h]
def a1y (r:a0r) (x:a0k):a0r×Bool:=
 if x.join then if 8<=r.ends.length\/x.a0N∈r.ends then (r,false) else ({r with ends:=r.ends++[x.a0N]},true)
 else if (r.ends.length:Int)<x.op.site\/a04 (r.ops++[x.op])=false then (r,false) else ({r with ops:=r.ops++[x.op]},true)
def b1t (r:a0r):Prop:=r.disk.safe.length<1000000/\r.disk.wait.length<1000000/\r.ops.length<1000000/\r.ends.length<1000000/\∀o∈r.ops,okO o
theorem b9J (r:a0r) (x:a0k) (h:b1t r) (hx:okO x.op):PEv Tryz.prog 58 [.g (a0u .old r),.g (a0q .old x)] (.t [(true,a0u .old (a1y r x).1),(false,[.raw (.bool (a1y r x).2)])]):=by
 obtain ⟨h1,h2,h3,h4,h5⟩:=h
 refine a3G mixed d6W Tryz.func58 f6g f6h (by kernel_rfl) (by simp [a0u]) (by simp [a0u,a0q,a0f]) ?_
 generalize hR:a1y r x=R
 unfold a1y at hR
 have hl:r.ops.length+1<4611686018427387904/\∀o,o∈r.ops\/o=x.op->okO o:=⟨by omega,fun o hm=>by
  rcases hm with hm|rfl
  ·exact h5 o hm
  ·exact hx⟩
 cases c0:x.join
 ·rw [if_neg (by simp [c0])] at hR
  simp [s58,a0u,a0q,a0f,c0]
  refine a1f (args':=[.c (.sl .brw false (a0a r.ops)),.g (a0f .brw x.op)]) ?_ (c3U r.ops x.op h3) (by simp) (by simp) ?_
  ·simp [a0f]
  cases c1:decide ((r.ends.length:Int)<x.op.site)
  rotate_left
  ·rw [if_pos (.inl (of_decide_eq_true c1))] at hR
   subst hR
   simp [s58,a0f,c1]
   refine a0A (mkS [(4,.c (.pt (1,1) 0 0)),(5,bv false)] [.var (1,1) 29 (a0u .old r)]) (a0c rfl ?_) ?_<;>simp [a0u]
  cases c2:a04 (r.ops++[x.op])
  ·rw [if_pos (.inr c2)] at hR
   subst hR
   simp [s58,a0f,c1,c2]
   refine ⟨hl,a0A (mkS [(4,.c (.pt (1,1) 0 0)),(5,bv false)] [.var (1,1) 29 (a0u .old r)]) (a0c rfl ?_) ?_⟩<;>simp [a0u]
  ·rw [if_neg (by simp [c2];simpa using c1)] at hR
   subst hR
   simp [s58,a0f,c1,c2]
   refine ⟨hl,a0A (mkS [(4,.c (.pt (1,1) 0 0)),(5,bv true)] [.var (1,1) 29 (a0u .old {r with ops:=r.ops++[x.op]})]) (a0c rfl ?_) ?_⟩<;>simp [a0u]
 rw [if_pos c0] at hR
 cases c1:decide ((8:Int)<=r.ends.length)
 rotate_left
 ·rw [if_pos (.inl (by have:=of_decide_eq_true c1;omega))] at hR
  subst hR
  simp [s58,a0u,a0q,a0f,c0,c1]
  refine a0A (mkS [(4,.c (.pt (1,1) 0 0)),(5,bv false)] [.var (1,1) 29 (a0u .old r)]) (a0c rfl ?_) ?_<;>simp [a0u]
 have h4':r.ends.length<4611686018427387904:=by omega
 cases c2:decide (x.a0N∈r.ends)
 rotate_left
 ·rw [if_pos (.inr (of_decide_eq_true c2))] at hR
  subst hR
  simp [s58,a0u,a0q,a0f,c0,c1,c2,h4']
  refine a0A (mkS [(4,.c (.pt (1,1) 0 0)),(5,bv false)] [.var (1,1) 29 (a0u .old r)]) (a0c rfl ?_) ?_<;>simp [a0u]
 rw [if_neg (by have:=of_decide_eq_false c1;have:=of_decide_eq_false c2;rintro (h|h)<;>first|omega|contradiction)] at hR
 subst hR
 simp [s58,a0u,a0q,a0f,c0,c1,c2,h4']
 refine a1f (args':=[.c (.sl .brw false (a0a r.ends))]) ?_ (c0R r.ends (by omega)) (by simp) (by simp) ?_
 ·simp
 simp [s58]
 refine ⟨⟨by omega,by omega⟩,?_⟩
 refine a0A (mkS [(4,.c (.pt (1,1) 0 0)),(5,bv true)] [.var (1,1) 29 (a0u .old {r with ends:=r.ends++[x.a0N]})]) (a0c rfl ?_) ?_<;>simp [a0u,a1g,a4G]
open Go Go.Proofs
open Go
open Go Go.Proofs
def c6M:List AV->Option (Prop×AV):=t3 (fun (d:a0l) (n:Int) (e:a0k)=>d.safe.length<1000000/\d.wait.length<1000000/\e.op.text.length<1000000/\e.op.gone.length<1000000/\n<9223372036854775808) fun (d:a0l) (n:Int) (e:a0k)=>a2i (a1O d n e)
def d0b:List AV->Option (Prop×AV):=t2 (fun (d:a0l) _=>d.safe.length<1000000/\d.wait.length<1000000) fun (d:a0l) (n:Int)=>a1l (a10 d n)
def FE3:CT:=(107,.pu c6M)::(76,.pu d0b)::FE2
theorem c3W:a1k Tryz.prog FE3:=⟨a6w fun d n e h=>b5T d n e h.1 h.2.1 h.2.2.1 h.2.2.2.1 h.2.2.2.2,
 a0R fun d n h=>b9G d n h.1 h.2,d6R⟩
@[simp] theorem e2n {n:Nat} (h:(n==107||n==76)=false):a0b FE3 n=a0b FE2 n:=by
 simp only [Bool.or_eq_false_iff,beq_eq_false_iff_ne,ne_eq] at h
 simp [FE3,a0b,h]
open Go Go.Proofs
theorem d0c {m:Nat} (h:m<9223372036854775808):d4b .i64 (m:Int) 127=((m%128:Nat):Int):=by
 have h1:((BitVec.ofInt 64 (m:Int)) &&&(BitVec.ofInt 64 127)).toNat=m%128:=by
  rw [BitVec.toNat_and]
  have e1:(BitVec.ofInt 64 (m:Int)).toNat=m:=by simp;omega
  have e2:(BitVec.ofInt 64 127).toNat=2^7-1:=by decide
  rw [e1,e2,Nat.and_two_pow_sub_one_eq_mod]
 show IntKind.wrap .i64 (((BitVec.ofInt 64 (m:Int)) &&&(BitVec.ofInt 64 127)).toNat:Int)=_
 rw [h1]
 exact a0d (by omega) (by omega)
theorem f0S {r:Nat} (h:r<128):ior .i64 (r:Int) 128=((r+128:Nat):Int):=by
 have:=c3j (acc:=r) (x:=1) (i:=1) (by omega) (by omega) (by omega)
 simpa using this
theorem c3X (n:Nat) (hn:n<9223372036854775808):PEv Tryz.prog 171 [.c (.raw (.int .i64 n))] (.c (.str (a0g n))):=by
 refine a0e mixed (F:=[]) trivial Tryz.func171 e8F e8G (by kernel_rfl) (by simp) (by simp) ?_
 simp [e8E]
 refine a1C (fun q st=>∃(k m:Nat) (L:List UInt8) (c:AC),q=k/\k<=9/\m<128^k/\L++a00 k m=a0g n/\st.s 0=.c (.raw (.int .i64 m))/\st.s 3=.c c/\a8Y st.H 5 1 0 c L/\L.length+k<=9/\a0D st.H st.T) 9
  ⟨9,n,[],.raw (.slice none 0 0),rfl,by omega,by omega,rfl,by simp,by simp,a8Y.nil,by simp,by simp;exact a1i.mono (by omega)⟩ ?_
 rintro q st ⟨k,m,L,c,hq,hk,hm,hL,k0,k3,hc,hl,hf⟩
 have hfu:∀k d,st.T<=k->st.H (k,d)=.a0h:=hf
 have hm9:m<9223372036854775808:=Nat.lt_of_lt_of_le hm (Nat.le_trans (Nat.pow_le_pow_right (by omega) hk) (by decide))
 by_cases hlt:128<=m
 ·have hlt':(128:Int)<=m:=by omega
  cases k with
  |zero=>simp at hm;omega
  |succ k=>
   have c1:=d0c hm9
   have c2:(m:Int).fdiv (2^7)=((m/128:Nat):Int):=by
    rw [Int.fdiv_eq_ediv_of_nonneg _ (by exact Int.pow_nonneg (by omega))];omega
   simp only [show (2:Int)^7=128 from rfl] at c2
   have b:IntKind.bits .i64=64:=rfl
   obtain ⟨r,hr,hr2⟩:∃r:Nat,m%128=r/\r<128:=⟨m%128,rfl,by omega⟩
   obtain ⟨p,hp⟩:∃p:Nat,m/128=p:=⟨m/128,rfl⟩
   rw [hr] at c1
   rw [hp] at c2
   have e1:=f0S hr2
   obtain ⟨y,hy⟩:∃y:Nat,r+128=y:=⟨_,rfl⟩
   rw [hy] at e1
   have e2:IntKind.wrap .u8 (y:Int)=y:=a7t (by omega) (by omega)
   have hm2:p<128^k:=by rw [Nat.pow_succ] at hm;omega
   have hL2:(L++[UInt8.ofNat y])++a00 k p=a0g n:=by rw [<-hL,a5i hlt,hr,hp,hy];simp
   rcases hc with ⟨rfl,rfl⟩|⟨id,rfl,b0p,hid⟩
   ·simp (maxDischargeDepth:=8) [b5E,k0,k3,hlt',hfu,b,c1,c2,e1,e2,Nat.le_add_right_of_le]
    refine ⟨k,by omega,by omega,p,hm2,[UInt8.ofNat y],by simpa using hL2,rfl,a8Y.so rfl (Nat.zero_le _) ?_,(by have:=hl;simp at this ⊢;omega),?_⟩
    ·simp [b1c (y:Int) (by omega) (by omega)]
    ·repeat' (first|exact hf.mono (by first|omega|(simp<;>omega))|(refine a0D.set' ?_ (by first|omega|(simp<;>omega))))
   ·obtain ⟨f1,f2,f3⟩:=hf.arr hid
    simp (maxDischargeDepth:=8) [b5E,k0,k3,hlt',hfu,b,c1,c2,e1,e2,f1,f2,hid,Nat.le_add_right_of_le]
    refine ⟨⟨by omega,by omega⟩,k,by omega,by omega,p,hm2,L++[UInt8.ofNat y],hL2,rfl,a8Y.so (by simp) (Nat.zero_le _) ?_,by simp;omega,?_⟩
    ·simp [a6O L (y:Int) (by omega) (by omega)]
    ·repeat' (first|exact hf.mono (by first|omega|(simp<;>omega))|(refine a0D.set' ?_ (by first|omega|(simp<;>omega))))
 ·have hlt':¬(128:Int)<=m:=by omega
  have e2:IntKind.wrap .u8 (m:Int)=m:=a7t (by omega) (by omega)
  rw [a5j (by omega)] at hL
  rcases hc with ⟨rfl,rfl⟩|⟨id,rfl,b0p,hid⟩
  ·simp (maxDischargeDepth:=8) [b5E,k0,k3,hlt',hfu,e2,Nat.le_add_right_of_le]
   simpa using hL
  ·obtain ⟨f1,f2,f3⟩:=hf.arr hid
   simp (maxDischargeDepth:=8) [b5E,k0,k3,hlt',hfu,e2,f1,f2,hid,List.take_of_length_le,hL,Nat.le_add_right_of_le]
   omega
theorem b7u (s:List UInt8) (hs:s.length<4611686018427387904):PEv Tryz.prog 209 [.c (.str s)] (.c (.raw (.int .u32 (ofN s)))):=by
 refine a0e mixed (F:=[]) trivial Tryz.func209 e9t e9u (by kernel_rfl) (by simp) (by simp) ?_
 simp [e9s]
 refine a1C (fun q st=>∃(i h:Nat),i<=s.length/\q=s.length-i/\h<4294967291/\st.s 0=.c (.str s)/\st.s 3=.c (.raw (.int .u64 h))/\st.s 4=.c (.raw (.int .i64 i))/\ofF h (s.drop i)=ofN s) s.length
  ⟨0,1,by omega,rfl,by omega,by simp,by simp,by simp,rfl⟩ ?_
 rintro q st ⟨i,h,hi,rfl,hh,k0,k3,k4,hT⟩
 by_cases hlt:i<s.length
 ·have hlt':(i:Int)<s.length:=by omega
  have hb:=s[i].toNat_lt
  rw [b9x hlt] at hT
  have c1:=b9w s i hlt
  obtain ⟨b,hb2,hb3⟩:∃b:Nat,s[i].toNat=b/\b<256:=⟨_,rfl,hb⟩
  rw [hb2] at c1 hT
  have c2:IntKind.wrap .u64 ((h:Int)*263)=(h:Int)*263:=by rw [a2z];omega
  have c3:IntKind.wrap .u64 (b:Int)=b:=by rw [a2z];omega
  have c4:IntKind.wrap .u64 ((h:Int)*263+b)=(h:Int)*263+b:=by rw [a2z];omega
  have c5:IntKind.wrap .u64 ((h:Int)*263+b+7)=(h:Int)*263+b+7:=by rw [a2z];omega
  obtain ⟨z,hz,hz2⟩:∃z:Nat,(h*263+b+7)%4294967291=z/\z<4294967291:=⟨_,rfl,Nat.mod_lt _ (by omega)⟩
  have c6:((h:Int)*263+b+7).tmod 4294967291=z:=by rw [Int.tmod_eq_emod_of_nonneg (by omega)];omega
  have e2:IntKind.wrap .i64 ((i:Int)+1)=(i:Int)+1:=by rw [a0d]<;>omega
  rw [hz] at hT
  simp [c28,k0,k3,k4,hlt,c1,c2,c3,c4,c5,c6,e2]
  exact ⟨s.length-(i+1),by omega,i+1,by omega,rfl,z,hz2,rfl,rfl,hT⟩
 ·have:i=s.length:=by omega
  subst this
  have hr:h=ofN s:=by rw [<-hT];simp [ofF]
  have c7:IntKind.wrap .u32 (h:Int)=h:=by rw [b1d];omega
  rw [hr] at c7 k3
  simp [c28,k0,k3,k4,c7]
def b3m:List AV->Option (Prop×AV):=t1 (fun n=>0<=n/\n<9223372036854775808) fun n:Int=>.c (.str (a0g n.toNat))
@[simp] theorem d6X {l:List AV}:b3m l=(t1 (fun n=>0<=n/\n<9223372036854775808) fun n:Int=>.c (.str (a0g n.toNat))) l:=(rfl)
def b3n:List AV->Option (Prop×AV):=t1 (fun s=>s.length<4611686018427387904) fun s:List UInt8=>.c (.raw (.int .u32 (ofN s)))
@[simp] theorem d6Y {l:List AV}:b3n l=(t1 (fun s=>s.length<4611686018427387904) fun s:List UInt8=>.c (.raw (.int .u32 (ofN s)))) l:=(rfl)
def FG0:CT:=(171,.pu b3m)::(209,.pu b3n)::FE3
theorem c3Y:a1k Tryz.prog FG0:=⟨a0n fun n h=>by have:=c3X n.toNat (by omega);rwa [Int.toNat_of_nonneg h.1] at this,
 a0n fun s h=>b7u s h,c3W⟩
@[simp] theorem d2n:a0b FG0 171=some (.pu b3m):=(rfl)
@[simp] theorem d2o:a0b FG0 209=some (.pu b3n):=(rfl)
@[simp] theorem e2o {n:Nat} (h:(n==171||n==209)=false):a0b FG0 n=a0b FE3 n:=by
 simp only [Bool.or_eq_false_iff,beq_eq_false_iff_ne,ne_eq] at h
 simp [FG0,a0b,h]
theorem c0S (s:List UInt8) (hs:s.length<140737488355328):PEv Tryz.prog 202 [.c (.str s)] (.c (.str (a0g s.length++s))):=by
 refine a0e mixed c3Y Tryz.func202 e9m e9n (by kernel_rfl) (by simp) (by simp) ?_
 have:=a6d s.length
 simp [e9l,show s.length<9223372036854775808 by omega]
 omega
theorem b7v (s:List UInt8) (hs:s.length<4611686018427387904):PEv Tryz.prog 184 [.c (.str s)] (.c (.str (a03 s))):=by
 refine a0e mixed c3Y Tryz.func184 e8O e8P (by kernel_rfl) (by simp) (by simp) ?_
 have hb:=a6d s.length
 by_cases h7:700<s.length
 ·have h7':(700:Int)<s.length:=by omega
  simp [e1q,h7',a03,h7]
 ·have h7':¬(700:Int)<s.length:=by omega
  have l1:(a1x (ofN (a0g s.length++s))).length=4:=rfl
  have hlt4:=b1h (a0g s.length++s)
  rw [a03,if_neg h7]
  generalize hh:ofN (a0g s.length++s)=h at *
  have c:∀k:Nat,(h:Int).fdiv (2^k)=((h/2^k:Nat):Int):=fun k=>by
   rw [Int.fdiv_eq_ediv_of_nonneg _ (by exact Int.pow_nonneg (by omega))]
   push_cast
   rfl
  have w8:∀n:Nat,IntKind.wrap .u8 (n:Int)=((n%256:Nat):Int):=fun n=>by rw [b5G (by omega)];omega
  have u8:∀n:Nat,UInt8.ofNat (n%256)=UInt8.ofNat n:=fun n=>by
   apply UInt8.toNat_inj.1
   simp
  have b:IntKind.bits .u32=32:=rfl
  have c1:=c 24
  have c2:=c 16
  have c3:=c 8
  simp only [show (2:Nat)^24=16777216 from rfl,show (2:Nat)^16=65536 from rfl,show (2:Nat)^8=256 from rfl,show (2:Int)^24=16777216 from rfl,show (2:Int)^16=65536 from rfl,show (2:Int)^8=256 from rfl] at c1 c2 c3
  obtain ⟨x1,h1⟩:∃x,h/16777216=x:=⟨_,rfl⟩
  obtain ⟨x2,h2⟩:∃x,h/65536=x:=⟨_,rfl⟩
  obtain ⟨x3,h3⟩:∃x,h/256=x:=⟨_,rfl⟩
  rw [h1] at c1
  rw [h2] at c2
  rw [h3] at c3
  have v0:=w8 h
  have v1:=w8 x1
  have v2:=w8 x2
  have v3:=w8 x3
  obtain ⟨y0,g0⟩:∃x,h%256=x:=⟨_,rfl⟩
  obtain ⟨y1,g1⟩:∃x,x1%256=x:=⟨_,rfl⟩
  obtain ⟨y2,g2⟩:∃x,x2%256=x:=⟨_,rfl⟩
  obtain ⟨y3,g3⟩:∃x,x3%256=x:=⟨_,rfl⟩
  rw [g0] at v0
  rw [g1] at v1
  rw [g2] at v2
  rw [g3] at v3
  have n1:s.length<9223372036854775808:=by omega
  have n2:(a0g s.length).length+s.length<4611686018427387904:=by omega
  simp [e1q,h7',hh,b,c1,c2,c3,v0,v1,v2,v3,n1,n2]
  rw [a1x,h1,h2,h3,<-u8 x1,<-u8 x2,<-u8 x3,<-u8 h,g0,g1,g2,g3]
  simp
  omega
open Go Go.Proofs
def b3o:List AV->Option (Prop×AV):=t1 (fun s=>s.length<140737488355328) fun s:List UInt8=>.c (.str (a0g s.length++s))
@[simp] theorem d6Z {l:List AV}:b3o l=(t1 (fun s=>s.length<140737488355328) fun s:List UInt8=>.c (.str (a0g s.length++s))) l:=(rfl)
def b3p:List AV->Option (Prop×AV):=t1 (fun s=>s.length<4611686018427387904) fun s:List UInt8=>.c (.str (a03 s))
@[simp] theorem d7a {l:List AV}:b3p l=(t1 (fun s=>s.length<4611686018427387904) fun s:List UInt8=>.c (.str (a03 s))) l:=(rfl)
def FG1:CT:=(202,.pu b3o)::(184,.pu b3p)::FG0
theorem c77:a1k Tryz.prog FG1:=⟨a0n fun s h=>c0S s h,
 a0n fun s h=>b7v s h,c3Y⟩
@[simp] theorem d2p:a0b FG1 202=some (.pu b3o):=(rfl)
@[simp] theorem d2q:a0b FG1 184=some (.pu b3p):=(rfl)
@[simp] theorem e2p {n:Nat} (h:(n==202||n==184)=false):a0b FG1 n=a0b FG0 n:=by
 simp only [Bool.or_eq_false_iff,beq_eq_false_iff_ne,ne_eq] at h
 simp [FG1,a0b,h]
theorem c0T (e:a0B) (h:okE e):PEv Tryz.prog 201 [Arg.enc e] (.c (.str (a1p e))):=by
 refine a0e mixed c77 Tryz.func201 e9j e9k (by kernel_rfl) (by simp) (by simp) ?_
 obtain ⟨⟨a1,a2⟩,⟨b1,b2⟩,⟨c1,c2⟩⟩:=h
 have l1:=a0G e.site.toNat
 have l2:=a0G e.seq.toNat
 have l3:=a0G e.i.toNat
 have m1:(a0g e.site.toNat).length+(a0g e.seq.toNat).length<=9223372036854775807:=by omega
 have m2:(a0g e.site.toNat).length+((a0g e.seq.toNat).length+(a0g e.i.toNat).length)<=9223372036854775807:=by omega
 have m3:(a0g e.site.toNat).length+(a0g e.seq.toNat).length+(a0g e.i.toNat).length<=9223372036854775807:=by omega
 simp [e9i,a1,a2,b1,b2,c1,c2,m1,m2,m3,a1p,a1X]
def b3q:List AV->Option (Prop×AV):=t1 okE fun e:a0B=>.c (.str (a1p e))
@[simp] theorem d7b {l:List AV}:b3q l=(t1 okE fun e:a0B=>.c (.str (a1p e))) l:=(rfl)
def FG2:CT:=(201,.pu b3q)::FG1
theorem c78:a1k Tryz.prog FG2:=⟨a0n fun e h=>c0T e h,c77⟩
@[simp] theorem d2r:a0b FG2 201=some (.pu b3q):=(rfl)
@[simp] theorem e2q {n:Nat} (h:(n==201)=false):a0b FG2 n=a0b FG1 n:=by
 simp only [Bool.or_eq_false_iff,beq_eq_false_iff_ne,ne_eq] at h
 simp [FG2,a0b,h]
theorem c6N (o:OpV) (h:okP o):PEv Tryz.prog 172 [Arg.enc o] (.c (.str (a0Z o))):=by
 refine a0e mixed c78 Tryz.func172 e8H e8I (by kernel_rfl) (by simp) (by simp [a0f]) ?_
 have hl1:=a0G o.site.toNat
 have hl2:=a0G o.seq.toNat
 have hl3:=a0G o.kind.toNat
 have hl4:=a4U o.after
 have hl5:=a0G o.text.length
 have hl6:=a0G o.gone.length
 have hl7:=a0G o.of_.toNat
 have hl8:=a0G o.num.toNat
 have hl9:=a0G o.gen.toNat
 have ht:=h.text
 have hg:=h.len
 obtain ⟨a1,a2⟩:=h.site
 obtain ⟨b1,b2⟩:=h.seq
 obtain ⟨c1,c2⟩:=h.kind
 obtain ⟨d1,d2⟩:=h.of_
 obtain ⟨e1,e2⟩:=h.num
 obtain ⟨f1,f2⟩:=h.gen
 have e7:=h.after
 have e9:a1p {site:=o.after.site,seq:=o.after.seq,i:=o.after.i}=a1p o.after:=rfl
 have g1:o.text.length<140737488355328:=by omega
 have g2:o.gone.length<9223372036854775808:=by omega
 have hh:a3R o=a0g o.site.toNat++(a0g o.seq.toNat++a0g o.kind.toNat):=by simp [a3R,a1X]
 have hhl:(a3R o).length<=30:=by rw [hh];simp only [List.length_append];omega
 have m1:(a0g o.site.toNat).length+(a0g o.seq.toNat).length<=9223372036854775807:=by omega
 have m2:(a0g o.site.toNat).length+((a0g o.seq.toNat).length+(a0g o.kind.toNat).length)<=9223372036854775807:=by omega
 cases c:decide (o.kind=2)
 rotate_left
 ·have e10:a0Z o=a3R o++a1X [o.of_,o.num,o.gen]:=by rw [a0Z,if_pos (of_decide_eq_true c)]
  have m3:(a0g o.site.toNat).length+((a0g o.seq.toNat).length+((a0g o.kind.toNat).length+(a0g o.of_.toNat).length))<=9223372036854775807:=by omega
  have m4:(a0g o.site.toNat).length+((a0g o.seq.toNat).length+((a0g o.kind.toNat).length+((a0g o.of_.toNat).length+(a0g o.num.toNat).length)))<=9223372036854775807:=by omega
  have m5:(a0g o.site.toNat).length+((a0g o.seq.toNat).length+((a0g o.kind.toNat).length+((a0g o.of_.toNat).length+((a0g o.num.toNat).length+(a0g o.gen.toNat).length))))<=9223372036854775807:=by omega
  simp [e1p,a0f,a1,a2,b1,b2,c1,c2,d1,d2,e1,e2,f1,f2,c,m1,m2,m3,m4,m5,e10,hh,a1X]
  try omega
 ·have e10:a0Z o=a3R o++b4G o++o.gone.flatMap a1p:=by rw [a0Z,if_neg (of_decide_eq_false c)]
  have m3:(a0g o.site.toNat).length+((a0g o.seq.toNat).length+((a0g o.kind.toNat).length+(a1p o.after).length))<=9223372036854775807:=by omega
  have m4:(a0g o.site.toNat).length+((a0g o.seq.toNat).length+((a0g o.kind.toNat).length+((a1p o.after).length+((a0g o.text.length).length+o.text.length))))<=9223372036854775807:=by omega
  have m5:(a0g o.site.toNat).length+((a0g o.seq.toNat).length+((a0g o.kind.toNat).length+((a1p o.after).length+((a0g o.text.length).length+(o.text.length+(a0g o.gone.length).length)))))<=9223372036854775807:=by omega
  simp [e1p,a0f,a1,a2,b1,b2,c1,c2,e7,e9,g1,g2,c,m1,m2,m3,m4,m5]
  refine ⟨by omega,by omega,by omega,by omega,by omega,?_⟩
  have lm:(a3R o++b4G o).length<=1000200:=by simp [hh,b4G,a1X];omega
  refine a1C (fun n st=>∃i:Nat,i<=o.gone.length/\n=o.gone.length-i/\st.s 1=.c (.pt (0,1) 0 0)/\st.H (0,1)=.arr 53 11 false [a0f .brw o]/\st.s 3=.c (.str (a3R o++b4G o++(o.gone.take i).flatMap a1p))/\st.s 4=.c (.raw (.int .i64 i))/\a0D st.H st.T) o.gone.length ?_ ?_
  ·refine ⟨0,by omega,by omega,?_⟩
   simp [hh,b4G,a1X,a0f]
   (repeat' (first|exact a1i.mono (Nat.zero_le _)|(refine a0D.set' ?_ (by simp))))
  rintro n st ⟨i,hi,rfl,h1,hH,h3,h4,hf⟩
  have hfu:∀k d,st.T<=k->st.H (k,d)=.a0h:=hf
  by_cases hlt:i<o.gone.length
  ·have hlt':(i:Int)<o.gone.length:=by omega
   have hw:IntKind.wrap .i64 ((i:Int)+1)=((i+1:Nat):Int):=by rw [a0d]<;>omega
   have hg:okE o.gone[i]:=h.gone _ (List.getElem_mem hlt)
   have hg':a1p {site:=o.gone[i].site,seq:=o.gone[i].seq,i:=o.gone[i].i}=a1p o.gone[i]:=rfl
   have hg2:okE {site:=o.gone[i].site,seq:=o.gone[i].seq,i:=o.gone[i].i}:=hg
   have g1:=b2T (o.gone.take i)
   rw [List.length_take] at g1
   have g2:=a4U o.gone[i]
   generalize hX:a3R o++b4G o++(o.gone.take i).flatMap a1p=X at h3
   have hXl:X.length+(a1p o.gone[i]).length<=9223372036854775807:=by rw [<-hX,List.length_append];omega
   simp [c26,h1,hH,a0f,h3,h4,hlt,hlt',hw,hfu,hg2,hg',hXl]
   refine ⟨_,?_,i+1,by omega,rfl,?_,rfl,?_⟩
   ·omega
   ·rw [<-hX,<-List.take_append_getElem hlt,List.flatMap_append]
    simp
   ·repeat' (first|exact hf.mono (by first|omega|(simp<;>omega))|(refine a0D.set' ?_ (by first|omega|(simp<;>omega))))
  ·have:i=o.gone.length:=by omega
   subst this
   simp [c26,h1,hH,a0f,h3,h4,e10]
def b3r:List AV->Option (Prop×AV):=t1 okP fun o:OpV=>.c (.str (a0Z o))
@[simp] theorem d7c {l:List AV}:b3r l=(t1 okP fun o:OpV=>.c (.str (a0Z o))) l:=(rfl)
def FG3:CT:=(172,.pu b3r)::FG2
theorem c79:a1k Tryz.prog FG3:=⟨a0n fun o h=>c6N o h,c78⟩
@[simp] theorem d2s:a0b FG3 172=some (.pu b3r):=(rfl)
@[simp] theorem e2r {n:Nat} (h:(n==172)=false):a0b FG3 n=a0b FG2 n:=by
 simp only [Bool.or_eq_false_iff,beq_eq_false_iff_ne,ne_eq] at h
 simp [FG3,a0b,h]
theorem b7w (e:a0k) (h:okF e):PEv Tryz.prog 186 [Arg.enc e] (.c (.str (a0E e))):=by
 refine a0e mixed c79 Tryz.func186 e8S e8T (by kernel_rfl) (by simp) (by simp [a0q,a0f]) ?_
 obtain ⟨h1,h2⟩:=h
 cases c:e.join
 ·have ho:=h2 c
  have hl:=a4X ho
  have hb:=a0G 0
  have e1:a0E e=a0g 0++a0Z e.op:=by simp [a0E,c]
  have l1:(a0g 0).length+(a0Z e.op).length<=9223372036854775807:=by omega
  simp [e1r,a0q,a0f,c,ho,l1,e1]
 ·obtain ⟨ho,ho'⟩:=h1 c
  have hb:=a0G 1
  have hl:=a0G e.a0N.toNat
  have e1:a0E e=a0g 1++a0g e.a0N.toNat:=by simp [a0E,c]
  have l1:(a0g 1).length+(a0g e.a0N.toNat).length<=9223372036854775807:=by omega
  simp [e1r,a0q,a0f,c,ho,ho',l1,e1]
def b3s:List AV->Option (Prop×AV):=t1 okF fun e:a0k=>.c (.str (a0E e))
@[simp] theorem d7d {l:List AV}:b3s l=(t1 okF fun e:a0k=>.c (.str (a0E e))) l:=(rfl)
def FG4:CT:=(186,.pu b3s)::FG3
theorem c8a:a1k Tryz.prog FG4:=⟨a0n fun e h=>b7w e h,c79⟩
@[simp] theorem d2t:a0b FG4 186=some (.pu b3s):=(rfl)
@[simp] theorem e2s {n:Nat} (h:(n==186)=false):a0b FG4 n=a0b FG3 n:=by
 simp only [Bool.or_eq_false_iff,beq_eq_false_iff_ne,ne_eq] at h
 simp [FG4,a0b,h]
theorem c0U {e:a0k} (h:okF e):(a0E e).length<=50000000:=by
 obtain ⟨h1,h2⟩:=h
 unfold a0E
 cases c:e.join
 ·have hl:=a4X (h2 c)
  have hb:=a0G 0
  simp;omega
 ·have hb:=a0G 1
  have hl:=a0G e.a0N.toNat
  simp;omega
def a2W (e:a0k):List UInt8×Bool:=if 700<(a0E e).length then ([],false) else (a8b (a03 (a0E e)),true)
def a1S (e:a0k):AV:=.t [(false,[.str (a2W e).1]),(false,[.raw (.bool (a2W e).2)])]
theorem b7x (e:a0k) (h:okF e):PEv Tryz.prog 146 [Arg.enc e] (a1S e):=by
 refine a0e mixed c8a Tryz.func146 e7W e7X (by kernel_rfl) (by simp [a1S]) (by simp [a0q,a0f]) ?_
 have hl:=c0U h
 by_cases h7:700<(a0E e).length
 ·have h7':(700:Int)<(a0E e).length:=by omega
  have e2:a2W e=([],false):=by rw [a2W,if_pos h7]
  simp [e1l,a0q,a0f,h,h7',a1S,e2]
 ·have h7':¬(700:Int)<(a0E e).length:=by omega
  have e2:a2W e=(a8b (a03 (a0E e)),true):=by rw [a2W,if_neg h7]
  have l2:(a0E e).length<4611686018427387904:=by omega
  have hs:(a03 (a0E e)).length<=800:=by
   have hb:=a6d (a0E e).length
   have l1:(a1x (ofN (a0g (a0E e).length++a0E e))).length=4:=rfl
   rw [a03,if_neg h7]
   simp only [List.length_append]
   omega
  rw [show a8b (a03 (a0E e))=a03 (a0E e)++List.replicate (b0t (a03 (a0E e)).length) 0 from rfl] at e2
  obtain ⟨n,hn⟩:∃n,(a03 (a0E e)).length=n:=⟨_,rfl⟩
  rw [hn] at e2 hs
  have w1:IntKind.wrap .i64 ((n:Int)+32)=(n:Int)+32:=by rw [a0d]<;>omega
  have w2:IntKind.wrap .i64 ((n:Int)+32-1)=(n:Int)+31:=by rw [a0d]<;>omega
  have d1:((n:Int)+31).tdiv 32=(((n+31)/32:Nat):Int):=by rw [Int.tdiv_eq_ediv_of_nonneg (by omega)];omega
  obtain ⟨q,hq,hq2⟩:∃q,(n+31)/32=q/\b0t n=q*32-n/\n<=q*32/\q<=100:=⟨_,rfl,by unfold b0t;omega,by omega,by omega⟩
  obtain ⟨hq2,hq3,hq4⟩:=hq2
  rw [hq] at d1
  have w3:IntKind.wrap .i64 (q:Int)=q:=by rw [a0d]<;>omega
  have w4:IntKind.wrap .i64 ((q:Int)*32)=(q:Int)*32:=by rw [a0d]<;>omega
  have w5:IntKind.wrap .i64 ((q:Int)*32-n)=((b0t n:Nat):Int):=by rw [a0d]<;>omega
  have hp:b0t n<=100:=by unfold b0t;omega
  have hp':b0t n<=1000000:=by omega
  simp [e1l,a0q,a0f,h,h7',a1S,e2,l2,hn,w1,w2,w3,w4,w5,d1,hp']
  omega
def a2D (e:a0k):AV:=if a0H e=true then a27 e else .t [(false,[.str []]),(false,[.raw (.int .i64 1)])]
theorem a7C (e:a0k) (h1:e.op.text.length<1000000) (h2:e.op.gone.length<1000000):PEv Tryz.prog 131 [Arg.enc e] (a2D e):=by
 have ho:okO e.op:=⟨by omega,by omega⟩
 unfold a2D
 cases c:a0H e
 ·refine a0e mixed c3W Tryz.func131 d5j d5k (by kernel_rfl) (by simp) (by simp [a0q,a0f]) ?_
  simp [e1j,a0q,a0f,ho,c]
 ·refine a0e mixed c3W Tryz.func131 d5j d5k (by kernel_rfl) (by simp [a27]) (by simp [a0q,a0f]) ?_
  have hf:=a4Y c h1 h2
  simp [e1j,a0q,a0f,ho,c,hf,a27]
def b3t:List AV->Option (Prop×AV):=t1 okF fun e:a0k=>a1S e
@[simp] theorem d7e {l:List AV}:b3t l=(t1 okF fun e:a0k=>a1S e) l:=(rfl)
def c6O:List AV->Option (Prop×AV):=t1 (fun e=>e.op.text.length<1000000/\e.op.gone.length<1000000) fun e:a0k=>a2D e
def FG5:CT:=(146,.pu b3t)::(131,.pu c6O)::FG4
theorem c8b:a1k Tryz.prog FG5:=⟨a0n fun e h=>b7x e h,
 a0n fun e h=>a7C e h.1 h.2,c8a⟩
@[simp] theorem d2u:a0b FG5 146=some (.pu b3t):=(rfl)
@[simp] theorem e2t {n:Nat} (h:(n==146||n==131)=false):a0b FG5 n=a0b FG4 n:=by
 simp only [Bool.or_eq_false_iff,beq_eq_false_iff_ne,ne_eq] at h
 simp [FG5,a0b,h]
open Go Go.Proofs
theorem a5U:∀(k i n:Nat),0<i->n<128^i->(a00 k n).length<=i
 |0,i,n,hi,hn=>by simp [a00];omega
 |k+1,i,n,hi,hn=>by
  by_cases h:n<128
  ·rw [a5j h];simp;omega
  ·rw [a5i (by omega)]
   cases i with
   |zero=>omega
   |succ i=>
    have:0<i:=by
     rcases Nat.eq_zero_or_pos i with h0|h0
     ·subst h0;simp at hn;omega
     ·exact h0
    have:=a5U k i (n/128) this (by rw [Nat.pow_succ] at hn;omega)
    simp;omega
def c3Z (s:List UInt8) (i acc:Nat):Prop:=∀m,(0<m\/i=0)->a00 9 (acc+128^i*m)=s.take i++a00 (9-i) m
theorem d0d (s:List UInt8):c3Z s 0 0:=fun m _=>by simp
theorem c0V {s:List UInt8} {i acc x:Nat} (h:c3Z s i acc) (hi:i<s.length) (h9:i<8) (hx:s[i].toNat%128=x) (hge:128<=s[i].toNat):c3Z s (i+1) (acc+x*128^i):=fun m hm=>by
 have hm:0<m:=by rcases hm with h|h<;>omega
 have h1:=h (x+128*m) (.inl (by omega))
 have e1:acc+x*128^i+128^(i+1)*m=acc+128^i*(x+128*m):=by
  rw [Nat.pow_succ,Nat.mul_add,Nat.mul_assoc,Nat.mul_comm x]
  omega
 have hb:=s[i].toNat_lt
 rw [e1,h1,show 9-i=(9-(i+1))+1 by omega,a5i (by omega),show (x+128*m)/128=m by omega,show (x+128*m)%128+128=s[i].toNat by omega,
  <-List.take_append_getElem hi]
 simp only [List.append_assoc,List.singleton_append]
 rw [show UInt8.ofNat s[i].toNat=s[i] from UInt8.ofNat_toNat]
theorem c30 {s:List UInt8} {i acc x:Nat} (h:c3Z s i acc) (hi:i<s.length) (h9:i<=8) (hx:s[i].toNat=x) (hlt:x<128) (hacc:acc<128^i):(a0g (acc+x*128^i)=s.take (i+1))↔¬(1<128^i/\x=0):=by
 constructor
 ·rintro h1 ⟨h2,rfl⟩
  have h3:0<i:=by
   rcases Nat.eq_zero_or_pos i with h0|h0
   ·subst h0;simp at h2
   ·exact h0
  have:=a5U 9 i acc h3 hacc
  have h4:(a0g (acc+0*128^i)).length=i+1:=by rw [h1];simp;omega
  rw [show acc+0*128^i=acc by omega] at h4
  unfold a0g at h4
  omega
 ·intro h1
  have h2:=h x (by
   rcases Nat.eq_zero_or_pos i with h0|h0
   ·exact .inr h0
   ·have:=Nat.one_lt_pow (a:=128) (n:=i) (by omega) (by omega)
    left
    rcases Nat.eq_zero_or_pos x with hx0|hx0
    ·exact absurd ⟨this,hx0⟩ h1
    ·exact hx0)
  rw [Nat.mul_comm] at h2
  rw [a0g,h2,a5j hlt,<-List.take_append_getElem hi,<-hx]
  simp
def a1L (s:List UInt8):AV:=match takeN s with
 |some (n,r)=>.t [(false,[.raw (.int .i64 n)]),(false,[.str r]),(false,[.raw (.bool true)])]
 |none=>.t [(false,[.raw (.int .i64 0)]),(false,[.str []]),(false,[.raw (.bool false)])]
def c6P (s:List UInt8) (q:Nat) (st:St):Prop:=∃(i acc:Nat),i<=min s.length 5/\q=5-i/\acc<128^i/\st.s 0=.c (.str s)/\st.s 5=.c (.raw (.int .i64 acc))/\st.s 6=.c (.raw (.int .i64 i))/\
 a3y (5-i) (128^i) acc (s.drop i)=takeN s/\c3Z s i acc/\a0D st.H st.T
theorem c0W (s:List UInt8) (hs:s.length<4611686018427387904):PEv Tryz.prog 143 [.c (.str s)] (a1L s):=by
 refine a0e mixed c8b Tryz.func143 e7Q e7R (by kernel_rfl) (by unfold a1L;split<;>simp) (by simp) ?_
 simp [e7P]
 refine a6y (c6P s) 5 ⟨0,0,by omega,rfl,by simp,by simp,by simp,by simp,rfl,d0d s,by simp;exact a1i.mono (by omega)⟩ ?_
 rintro q st ⟨i,acc,hi,rfl,hacc,k0,k5,k6,hT,hR,hf⟩ J hJ
 have hfu:∀k d,st.T<=k->st.H (k,d)=.a0h:=hf
 by_cases hlt:i<min s.length 5
 ·have hlt2:i<s.length:=by omega
  have e4i:(i:Int)<5:=by omega
  have hlt':((i:Int)<s.length):=by omega
  have hk:5-i=(4-i)+1:=by omega
  rw [hk,take_at hlt2] at hT
  have hb:=s[i].toNat_lt
  obtain ⟨x,hx,hx2⟩:∃x:Nat,s[i].toNat%128=x/\x<128:=⟨_,rfl,by omega⟩
  have c1:=b9w s i hlt2
  have c2:=c7P s[i]
  have hRs:=c0V hR hlt2 (by omega) hx
  have hRe:=fun h=>c30 (x:=x) hR hlt2 (by omega) h hx2 hacc
  rw [hx] at c2 hT
  have c3:IntKind.wrap .i64 (x:Int)=x:=by rw [a0d]<;>omega
  have c4:IntKind.wrap .i64 (7*(i:Int))=7*(i:Int):=by rw [a0d]<;>omega
  have h7:(128:Nat)^i=2^(7*i):=by rw [show (128:Nat)=2^7 from rfl,<-Nat.pow_mul]
  have c1t:min (7*(i:Int)).toNat (IntKind.bits .i64)=7*i:=by
   have:IntKind.bits .i64=64:=rfl
   omega
  have hp:128^i<=128^4:=Nat.pow_le_pow_right (by omega) (by omega)
  have h4:(128:Nat)^4=268435456:=by decide
  have hxi:x*128^i<=127*268435456:=Nat.mul_le_mul (by omega) (by omega)
  have c5:=c3j hacc (i:=i) (by omega) hx2
  have c6:IntKind.wrap .i64 ((x:Int)*2^(7*i))=((x*128^i:Nat):Int):=by
   rw [h7]
   have:((x:Int)*2^(7*i))=((x*2^(7*i):Nat):Int):=by push_cast;rfl
   rw [this,<-h7]
   exact a0d (by omega) (by omega)
  have e2:IntKind.wrap .i64 ((i:Int)+1)=((i+1:Nat):Int):=by rw [a0d]<;>omega
  have hnew:acc+x*128^i<128^(i+1):=by
   rw [Nat.pow_succ]
   have:x*128^i<=127*128^i:=Nat.mul_le_mul_right _ (by omega)
   omega
  obtain ⟨y,hy⟩:∃y,x*128^i=y:=⟨_,rfl⟩
  rw [hy] at c5 c6 hT hxi hRs hRe hnew
  obtain ⟨z,hz⟩:∃z,acc+y=z:=⟨_,rfl⟩
  rw [hz] at c5 hT hRs hRe hnew
  have f3q:z<9223372036854775808:=by omega
  by_cases hge:128<=s[i].toNat
  ·have hge':¬(s[i].toNat:Int)<128:=by omega
   rw [if_pos hge] at hT
   simp [a9N,k0,k5,k6,e4i,hlt',hlt2,hfu,c1,c2,c3,c4,c1t,c5,c6,e2,hge']
   refine ⟨by omega,5-(i+1),by omega,hJ _ _ ⟨i+1,z,by omega,rfl,hnew,by simp [k0],by simp,by simp,?_,hRs hge,by simp;exact hf.mono (by omega)⟩⟩
   rw [show 5-(i+1)=4-i by omega,Nat.pow_succ]
   exact hT
  ·have hge':(s[i].toNat:Int)<128:=by omega
   rw [if_neg hge] at hT
   have hxs:s[i].toNat=x:=by omega
   have hRe:=hRe hxs
   have hl1:((i+1:Nat):Int)<=s.length:=by omega
   have ht:List.take (i+1) s=s.take (i+1):=rfl
   by_cases hbig:268435456<z
   ·have hbig':(268435456:Int)<z:=by omega
    rw [if_pos (.inl hbig)] at hT
    simp [a9N,k0,k5,k6,e4i,hlt',hlt2,hfu,c1,c2,c3,c4,c1t,c5,c6,e2,hge',hbig']
    refine ⟨by omega,?_⟩
    simp [a1L,<-hT]
   ·have hbig':¬(268435456:Int)<z:=by omega
    cases hc:decide (a0g z=s.take (i+1))
    ·have hn:=(not_congr hRe).1 (of_decide_eq_false hc)
     rw [Decidable.not_not] at hn
     rw [if_pos (.inr ⟨hn.1,by omega⟩)] at hT
     simp [a9N,k0,k5,k6,e4i,hlt',hlt2,hfu,c1,c2,c3,c4,c1t,c5,c6,e2,hge',hbig',f3q,hc]
     refine ⟨by omega,by omega,⟨by omega,by omega⟩,?_⟩
     simp [a1L,<-hT]
    ·have hn:=hRe.1 (of_decide_eq_true hc)
     rw [if_neg (by rintro (h|⟨h1,h2⟩);exact hbig h;exact hn ⟨h1,by omega⟩)] at hT
     simp [a9N,k0,k5,k6,e4i,hlt',hlt2,hfu,c1,c2,c3,c4,c1t,c5,c6,e2,hge',hbig',f3q,hc]
     refine ⟨by omega,by omega,⟨by omega,by omega⟩,?_⟩
     simp [a1L,<-hT]
 ·have hi2:i=min s.length 5:=by omega
  have hn:none=takeN s:=by
   rw [<-hT]
   by_cases h5:s.length<5
   ·rw [List.drop_eq_nil_of_le (by omega),show 5-i=(4-i)+1 by omega,a3y]
   ·rw [show 5-i=0 by omega,a3y]
  have hr:a1L s=.t [(false,[.raw (.int .i64 0)]),(false,[.str []]),(false,[.raw (.bool false)])]:=by rw [a1L,<-hn]
  by_cases h5:i<5
  ·have h5':(i:Int)<5:=by omega
   have hlt':¬(i:Int)<s.length:=by omega
   simp [a9N,k0,k5,k6,h5',hlt',hr]
  ·have h5':¬(i:Int)<5:=by omega
   simp [a9N,k0,k5,k6,h5',hr]
open Go Go.Proofs
def b3u:List AV->Option (Prop×AV):=t1 (fun s=>s.length<4611686018427387904) fun s:List UInt8=>a1L s
@[simp] theorem d7f {l:List AV}:b3u l=(t1 (fun s=>s.length<4611686018427387904) fun s:List UInt8=>a1L s) l:=(rfl)
def FH0:CT:=(143,.pu b3u)::FG5
theorem c31:a1k Tryz.prog FH0:=⟨a0n fun s h=>c0W s h,c8b⟩
@[simp] theorem d2v:a0b FH0 143=some (.pu b3u):=(rfl)
@[simp] theorem e2u {n:Nat} (h:(n==143)=false):a0b FH0 n=a0b FG5 n:=by
 simp only [Bool.or_eq_false_iff,beq_eq_false_iff_ne,ne_eq] at h
 simp [FH0,a0b,h]
theorem a1z {s r:List UInt8} {n:Nat} (h:takeN s=some (n,r)):a1L s=.t [(false,[.raw (.int .i64 n)]),(false,[.str r]),(false,[.raw (.bool true)])]:=by rw [a1L,h]
theorem a2X {s:List UInt8} (h:takeN s=none):a1L s=.t [(false,[.raw (.int .i64 0)]),(false,[.str []]),(false,[.raw (.bool false)])]:=by rw [a1L,h]
def a1q (s:List UInt8):AV:=.t [(false,[.str (a0L s).1]),(false,[.str (a0L s).2.1]),(false,[.raw (.bool (decide ((a0L s).2.2=0)))])]
theorem b0E (s:List UInt8) (hs:s.length<4611686018427387904):PEv Tryz.prog 225 [.c (.str s)] (a1q s):=by
 refine a0e mixed c31 Tryz.func225 e90 e91 (by kernel_rfl) (by simp [a1q]) (by simp) ?_
 cases hn:takeN s with
 |none=>
  simp [d5t,hs,a2X hn]
  simp [a1q,a0L,hn]
 |some q=>
  obtain ⟨n,r⟩:=q
  obtain ⟨h1,h2⟩:=a1W hn
  by_cases hl:n<=r.length
  ·have hl':¬(r.length:Int)<n:=by omega
   simp [d5t,hs,a1z hn,hl,hl']
   simp [a1q,a0L,hn,hl]
  ·have hl':(r.length:Int)<n:=by omega
   simp [d5t,hs,a1z hn,hl,hl']
   simp [a1q,a0L,hn,hl]
theorem b3v (s:List UInt8) (hs:s.length<4611686018427387904):PEv Tryz.prog 142 [.c (.str s)] (a1v s):=by
 refine a0e mixed c31 Tryz.func142 e7N e7O (by kernel_rfl) (by unfold a1v;split<;>simp) (by simp) ?_
 cases hn:takeN s with
 |none=>
  simp [c9J,hs,a2X hn]
  simp [a1v,a2L,hn]
 |some q=>
  obtain ⟨n,r⟩:=q
  obtain ⟨h1,h2⟩:=a1W hn
  have hsp:=a6g hn
  have hsl:s.length=(a0g n).length+r.length:=by rw [hsp,List.length_append]
  by_cases h7:700<n
  ·have h7':(700:Int)<n:=by omega
   simp [c9J,hs,a1z hn,h7']
   simp [a1v,a2L,hn,h7]
  ·have h7':¬(700:Int)<n:=by omega
   have e1:IntKind.wrap .i64 (4+(n:Int))=((4+n:Nat):Int):=by rw [a0d]<;>omega
   by_cases h8:r.length<n+4
   ·have h8':(r.length:Int)<((4+n:Nat):Int):=by omega
    obtain ⟨b,hb⟩:∃b,4+n=b:=⟨_,rfl⟩
    rw [hb] at e1 h8'
    simp [c9J,hs,a1z hn,h7',e1,h8']
    simp [a1v,a2L,hn,h7,h8]
   ·have h8':¬(r.length:Int)<((4+n:Nat):Int):=by omega
    have hT:a2L s=if r.take 4=a1x (ofN (a0g n++(r.take (4+n)).drop 4)) then some ((r.take (4+n)).drop 4,r.drop (4+n)) else none:=by
     rw [a2L,hn]
     simp only
     rw [if_neg (by omega)]
     have:s.take (s.length-r.length)=a0g n:=by
      rw [hsl,show (a0g n).length+r.length-r.length=(a0g n).length by omega,hsp]
      simp
     rw [this]
    obtain ⟨b,hb⟩:∃b,4+n=b:=⟨_,rfl⟩
    rw [hb] at e1 h8' hT
    have e5:b<=r.length:=by omega
    have e6:4<=b:=by omega
    have htl:((r.take b).drop 4).length=n:=by simp;omega
    have htk:r.take b=r.take 4++(r.take b).drop 4:=by
     have h:=(List.take_append_drop 4 (r.take b)).symm
     rwa [List.take_take,Nat.min_eq_left e6] at h
    generalize ht:(r.take b).drop 4=t at *
    have hf:a03 t=a0g n++a1x (ofN (a0g n++t))++t:=by rw [a03,if_neg (by omega),htl]
    have l1:(a1x (ofN (a0g n++t))).length=4:=rfl
    have hfl:(a03 t).length=(a0g n).length+b:=by rw [hf];simp only [List.length_append];omega
    have hst:s.take (a03 t).length=a0g n++r.take b:=by
     rw [hfl,hsp,List.take_append,List.take_of_length_le (by omega),Nat.add_sub_cancel_left]
    have hiff:(s.take (a03 t).length=a03 t)↔r.take 4=a1x (ofN (a0g n++t)):=by
     rw [hst,hf,htk,List.append_assoc,List.append_cancel_left_eq,List.append_cancel_right_eq]
    have k1:t.length<4611686018427387904:=by omega
    have k2:(a03 t).length<=s.length:=by omega
    have k3:(4:Int)<=b:=by omega
    have k4:(b:Int)<=r.length:=by omega
    cases hc:decide (s.take (a03 t).length=a03 t)
    ·have hc':=(not_congr hiff).1 (of_decide_eq_false hc)
     rw [if_neg hc'] at hT
     simp [c9J,hs,a1z hn,h7',e1,h8',ht,e5,e6,k1,k2,k3,k4,hc]
     simp [a1v,hT]
    ·have hc':=hiff.1 (of_decide_eq_true hc)
     rw [if_pos hc'] at hT
     simp [c9J,hs,a1z hn,h7',e1,h8',ht,e5,e6,k1,k2,k3,k4,hc]
     simp [a1v,hT]
def b3w:List AV->Option (Prop×AV):=t1 (fun s=>s.length<4611686018427387904) fun s:List UInt8=>a1q s
@[simp] theorem d7g {l:List AV}:b3w l=(t1 (fun s=>s.length<4611686018427387904) fun s:List UInt8=>a1q s) l:=(rfl)
def b3x:List AV->Option (Prop×AV):=t1 (fun s=>s.length<4611686018427387904) fun s:List UInt8=>a1v s
@[simp] theorem d7h {l:List AV}:b3x l=(t1 (fun s=>s.length<4611686018427387904) fun s:List UInt8=>a1v s) l:=(rfl)
def FH1:CT:=(225,.pu b3w)::(142,.pu b3x)::FH0
theorem c32:a1k Tryz.prog FH1:=⟨a0n fun s h=>b0E s h,
 a0n fun s h=>b3v s h,c31⟩
@[simp] theorem d2w:a0b FH1 225=some (.pu b3w):=(rfl)
@[simp] theorem d2x:a0b FH1 142=some (.pu b3x):=(rfl)
@[simp] theorem e2v {n:Nat} (h:(n==225||n==142)=false):a0b FH1 n=a0b FH0 n:=by
 simp only [Bool.or_eq_false_iff,beq_eq_false_iff_ne,ne_eq] at h
 simp [FH1,a0b,h]
open Go Go.Proofs Go.Shelf
def lays197_ren:Go.Shelf.Ren:=⟨fun|197=>169|260=>200|n=>n,fun|9=>9|21=>21|3=>3|4=>4|5=>5|105=>195|119=>239|0=>0|46=>168|139=>242|138=>241|n=>n,fun|3=>0|4=>1|n=>n⟩
theorem lays197:Lays.n197 Tryz.prog lays197_ren where
 mixed:=by kernel_rfl
 f197:=Tryz.func169.trans (congrArg some (by kernel_rfl))
 f260:=Tryz.func200.trans (congrArg some (by kernel_rfl))
 t0:=Tryz.underlying0
 a0:=Tryz.isAgg0
 z0:=Tryz.sizeOf0
 v0:=Tryz.zeroValue0
 t3:=Tryz.underlying3
 a3:=Tryz.isAgg3
 z3:=Tryz.sizeOf3
 v3:=Tryz.zeroValue3
 t4:=Tryz.underlying4
 a4:=Tryz.isAgg4
 z4:=Tryz.sizeOf4
 v4:=Tryz.zeroValue4
 t5:=Tryz.underlying5
 a5:=Tryz.isAgg5
 z5:=Tryz.sizeOf5
 v5:=Tryz.zeroValue5
 t9:=Tryz.underlying9
 a9:=Tryz.isAgg9
 z9:=Tryz.sizeOf9
 v9:=Tryz.zeroValue9
 t21:=Tryz.underlying21
 a21:=Tryz.isAgg21
 z21:=Tryz.sizeOf21
 v21:=Tryz.zeroValue21
 t46:=Tryz.underlying168
 a46:=Tryz.isAgg168
 z46:=Tryz.sizeOf168
 v46:=Tryz.zeroValue168
 t105:=Tryz.underlying195
 a105:=Tryz.isAgg195
 z105:=Tryz.sizeOf195
 v105:=Tryz.zeroValue195
 t119:=Tryz.underlying239
 a119:=Tryz.isAgg239
 z119:=Tryz.sizeOf239
 t138:=Tryz.underlying241
 a138:=Tryz.isAgg241
 z138:=Tryz.sizeOf241
 v138:=Tryz.zeroValue241
 t139:=Tryz.underlying242
 a139:=Tryz.isAgg242
 z139:=Tryz.sizeOf242
 v139:=Tryz.zeroValue242
 g3:=by kernel_rfl
 g4:=by kernel_rfl
open Go Go.Proofs
def a2P (e:a0B):Bool:=decide (e=⟨0,0,0⟩)
theorem b1u (e:a0B):decide (e=⟨0,0,0⟩)=a2P e:=rfl
theorem b9K (e:a0B):PEv Tryz.prog 118 [Arg.enc e] (.c (.raw (.bool (a2P e)))):=by
 refine a0e mixed (F:=[]) trivial Tryz.func118 e7q e7r (by kernel_rfl) (by simp) (by simp) ?_
 simp [e7p]
 rw [a2P]
 exact c6B e
theorem c0X (r:Int):PEv Tryz.prog 170 [.c (.raw (.int .i32 r))] (.c (.raw (.bool (a2h r)))):=by
 refine a0e mixed (F:=[]) trivial Tryz.func170 e8C e8D (by kernel_rfl) (by simp) (by simp) ?_
 by_cases h1:r=10
 ·subst h1
  simp [c5c,a2h]
 ·by_cases h2:32<=r
  ·by_cases h3:r<=55295
   ·by_cases h4:r=127
    ·subst h4
     simp [c5c,a2h]
    ·simp [c5c,a2h,h1,h2,h3,h4]
     omega
   ·by_cases h4:57344<=r
    ·by_cases h5:r<=1114111
     ·by_cases h6:r=65533
      ·subst h6
       simp [c5c,a2h]
      ·simp [c5c,a2h,h1,h2,h3,h4,h5,h6]
       omega
     ·simp [c5c,a2h,h1,h2,h3,h4,h5]
    ·simp [c5c,a2h,h1,h2,h3,h4]
  ·have h4:¬57344<=r:=by omega
   simp [c5c,a2h,h1,h2,h4]
theorem c33 (o:OpV) (e:a0B):PEv Tryz.prog 121 [Arg.enc o,Arg.enc e] (.c (.raw (.bool (ownB o e)))):=by
 refine a0e mixed (F:=[]) trivial Tryz.func121 e7x e7y (by kernel_rfl) (by simp) (by simp [a0f]) ?_
 cases h:decide (e.site=o.site)
 ·simp [e1h,a0f,ownB,h]
 ·simp [e1h,a0f,ownB,h]
theorem c0Y (a b:a0B):PEv Tryz.prog 122 [Arg.enc a,Arg.enc b] (.c (.raw (.bool (a7Y a b)))):=by
 refine a0e mixed (F:=[]) trivial Tryz.func122 e7z e7A (by kernel_rfl) (by simp) (by simp) ?_
 have hl:a7Y a b=if a.site=b.site then (if a.seq=b.seq then decide (a.i<b.i) else decide (a.seq<b.seq)) else decide (a.site<b.site):=by
  simp only [a7Y,a6e,orI,c5f]
  repeat' split
  all_goals first
   |(simp_all;done)
   |(simp_all;omega)
 cases h1:decide (a.site=b.site)
 ·have h1':=of_decide_eq_false h1
  rw [hl,if_neg h1']
  simp [d5i,h1]
 ·have h1':=of_decide_eq_true h1
  rw [hl,if_pos h1']
  cases h2:decide (a.seq=b.seq)
  ·have h2':=of_decide_eq_false h2
   rw [if_neg h2']
   simp [d5i,h1,h2]
  ·have h2':=of_decide_eq_true h2
   rw [if_pos h2']
   simp [d5i,h1,h2]
open Go Go.Proofs
structure Rn where
 n:Int
 deriving DecidableEq
instance f7l:Enc Rn where
 w:=1
 row b:=[.raw (.int .i32 b.n)]
 dec|[.raw (.int .i32 n)]=>some ⟨n⟩|_=>none
 a3J a:=rfl
 a3x {r a} h:=by split at h<;>simp_all;subst h;rfl
 len _:=rfl
 old a c hc:=by simp at hc;subst hc;exact .raw _
 ret a c hc:=by simp at hc;subst hc;exact .raw _
@[simp] theorem f2Y (b:Rn):Enc.row b=[AC.raw (.int .i32 b.n)]:=rfl
@[simp] theorem f8y:Enc.w Rn=1:=rfl
instance f7m:Arg Rn where
 enc w:=.c (.raw (.int .i32 w.n))
 dec|.c (.raw (.int .i32 n))=>some ⟨n⟩|_=>none
 a1j {x a} h:=by split at h<;>simp_all;subst h;rfl
@[simp] theorem f2Z (w:Rn):Arg.enc w=.c (.raw (.int .i32 w.n)):=rfl
@[simp] theorem f3a (n:Int):(Arg.dec (.c (.raw (.int .i32 n))):Option Rn)=some ⟨n⟩:=rfl
def a5n (s:List UInt8) (i:Nat):Nat×Nat:=Utf8.decode ⟨s.toArray⟩ i
def a4B (s:List UInt8):Nat->Nat->Option (List Rn)
 |0,_=>some []
 |f+1,i=>if i<s.length then (if a2h ((a5n s i).1:Int)=true then (a4B s f (i+(a5n s i).2)).map (⟨((a5n s i).1:Int)⟩::·) else none) else some []
def runesL (s:List UInt8):Option (List Rn):=a4B s s.length 0
theorem a6T (s:List UInt8):∀f i,match a4B s f i with
  |some l=>Lib.idxFuncFrom (fun r=>!a2h (r:Int)) true ⟨s.toArray⟩ f i=-1/\Lib.runeCountFrom ⟨s.toArray⟩ f i=l.length
  |none=>0<=Lib.idxFuncFrom (fun r=>!a2h (r:Int)) true ⟨s.toArray⟩ f i
 |0,i=>by simp [a4B,Lib.idxFuncFrom,Lib.runeCountFrom]
 |f+1,i=>by
  have ih:=a6T s f (i+(a5n s i).2)
  have hsz:(⟨s.toArray⟩:ByteArray).size=s.length:=by simp [ByteArray.size]
  unfold a4B Lib.idxFuncFrom Lib.runeCountFrom
  rw [hsz]
  by_cases h:i<s.length
  ·rw [if_pos h,if_pos h,if_pos h]
   change (match (if a2h ((a5n s i).1:Int)=true then (a4B s f (i+(a5n s i).2)).map (⟨((a5n s i).1:Int)⟩::·) else none) with
    |some l=>(if (!a2h ((a5n s i).1:Int))=true then (i:Int) else Lib.idxFuncFrom (fun r=>!a2h (r:Int)) true ⟨s.toArray⟩ f (i+(a5n s i).2))=-1/\1+Lib.runeCountFrom ⟨s.toArray⟩ f (i+(a5n s i).2)=l.length
    |none=>0<=(if (!a2h ((a5n s i).1:Int))=true then (i:Int) else Lib.idxFuncFrom (fun r=>!a2h (r:Int)) true ⟨s.toArray⟩ f (i+(a5n s i).2)))
   cases hb:a2h ((a5n s i).1:Int)
   ·simp
   ·simp only [if_true,Bool.not_true,Bool.false_eq_true,if_false]
    cases hr:a4B s f (i+(a5n s i).2) with
    |none=>rw [hr] at ih;simpa using ih
    |some l=>rw [hr] at ih;simp at ih ⊢;omega
  ·simp [if_neg h]
theorem a9T (s:List UInt8):a36 s=(runesL s).isSome:=by
 have h:=a6T s s.length 0
 have hsz:(⟨s.toArray⟩:ByteArray).size=s.length:=by simp [ByteArray.size]
 unfold a36 Lib.idxFunc runesL
 rw [hsz]
 cases hr:a4B s s.length 0 with
 |none=>rw [hr] at h;simpa using h
 |some l=>rw [hr] at h;simp;omega
theorem b1v {s:List UInt8} {l:List Rn} (h:runesL s=some l):a05 s=l.length:=by
 have h':=a6T s s.length 0
 have hsz:(⟨s.toArray⟩:ByteArray).size=s.length:=by simp [ByteArray.size]
 unfold runesL at h
 rw [h] at h'
 unfold a05 Lib.runeCount
 rw [hsz]
 exact h'.2
theorem d0e {w:World} (h:Inv Tryz.prog w):Lib.Utf8Tabs (lays197_ren.g 3) (lays197_ren.g 4) w:=by
 obtain ⟨h1,h2⟩:=h (lays197_ren.g 3) (lays197_ren.g 4) (by kernel_rfl) (by kernel_rfl)
 have e:∀c,(Lib.firstT c:Int)=c1y c:=fun c=>by
  unfold Lib.firstT c1y
  repeat' split
  all_goals first|rfl|omega
 have e2:∀c,(Lib.accLo c:Int)=a89 c:=fun c=>by
  unfold Lib.accLo a89
  repeat' split
  all_goals rfl
 have e3:∀c,(Lib.accHi c:Int)=a9a c:=fun c=>by
  unfold Lib.accHi a9a
  repeat' split
  all_goals rfl
 exact ⟨fun c hc=>by rw [e];exact h1 c hc,fun i hi=>by rw [e2,e3];exact h2 i hi⟩
def a7D (s:List UInt8):AV:=.t [(false,[.raw (.int .i32 ((Lib.decodeGo ⟨s.toArray⟩).1:Int))]),(false,[.raw (.int .i64 ((Lib.decodeGo ⟨s.toArray⟩).2:Int))])]
theorem d0f {P:Program} {f:FuncId} {args:List AV} {u v:Value} (hok:a4s P f=true) (ha:∀x∈args,∀c∈x.flat,VOK c)
  (h:∀(w:World) (hI:Inv P w) (F:Tag->Nat->Prop) (vs:Array Value),vs.size=args.length->(∀(k:Nat) x,args[k]?=some x->a3o w F a0t a0Q x (vs.getD k undef))->
   Calls P f vs w fun e w'=>e=.returned (.tuple #[u,v])/\RowKit.Below w.heap.size w w'):PEv P f args (.t [(false,[.raw u]),(false,[.raw v])]):=by
 refine ⟨⟨hok,by simp [AV.flat],ha⟩,fun w hI G vs hsz hargs nm inj=>?_⟩
 refine (h w hI _ vs hsz hargs).mono ?_
 rintro e w' ⟨rfl,hb⟩
 refine ⟨_,rfl,a0Q,⟨hb,(fun id e sz f rows hid=>by cases hid),(fun id id' e sz rows e' sz' f' rows' b c s c' s' hid=>by cases hid),⟨0,fun _ _ _=>rfl⟩,.none (fun _ _ _ h=>by cases h) (fun _ h=>h.elim) (fun _ _ _ _ _ _ h=>h)⟩,?_⟩
 refine .t _ _ rfl fun k b cs hk=>?_
 match k,hk with
 |0,hk=>simp [adT,adL,adC] at hk;obtain ⟨rfl,rfl⟩:=hk;exact .c _ _ (.raw _)
 |1,hk=>simp [adT,adL,adC] at hk;obtain ⟨rfl,rfl⟩:=hk;exact .c _ _ (.raw _)
theorem c34 (s:List UInt8):PEv Tryz.prog 169 [.c (.str s)] (a7D s):=by
 refine d0f (by kernel_rfl) (by simp) fun w hI F vs hs' hr=>?_
 have h0:=a1U (a0C (hr 0 _ rfl))
 rw [vs1 hs' h0]
 exact Any.utf8_DecodeRuneInString lays197 ⟨s.toArray⟩ w (d0e hI)
theorem decode_at (s:List UInt8) (i:Nat) (h:i<s.length):Lib.decodeGo ⟨(s.drop i).toArray⟩=a5n s i:=by
 have hsz:(⟨s.toArray⟩:ByteArray).size=s.length:=by simp [ByteArray.size]
 have he:(⟨(s.drop i).toArray⟩:ByteArray)=(⟨s.toArray⟩:ByteArray).extract i (⟨s.toArray⟩:ByteArray).size:=by
  apply ByteArray.ext
  apply Array.ext'
  rw [Lib.extract_data,hsz]
  simp
  exact (List.take_of_length_le (by simp)).symm
 rw [he,Lib.decodeGo,if_neg (by rw [Lib.tail_size,hsz];omega),Lib.tail_decode]
 rfl
theorem c35 (s:List UInt8) (i:Nat):(a5n s i).2<=4:=by
 unfold a5n
 rw [Lib.decode_at]
 exact Lib.decodeN_le4 _ _ _ _ _
theorem c36 (s:List UInt8) (i:Nat) (h:i<s.length):1<=(a5n s i).2:=Lib.decode_width_pos _ _ (by simpa [ByteArray.size] using h)
def b3y:List AV->Option (Prop×AV):=t1 (fun _=>True) fun s:List UInt8=>a7D s
@[simp] theorem d7i {l:List AV}:b3y l=(t1 (fun _=>True) fun s:List UInt8=>a7D s) l:=(rfl)
def b3z:List AV->Option (Prop×AV):=t1 (fun _=>True) fun r:Rn=>.c (.raw (.bool (a2h r.n)))
@[simp] theorem d7j {l:List AV}:b3z l=(t1 (fun _=>True) fun r:Rn=>.c (.raw (.bool (a2h r.n)))) l:=(rfl)
def FH2:CT:=(169,.pu b3y)::(170,.pu b3z)::FH1
theorem c8c:a1k Tryz.prog FH2:=⟨a0n fun s _=>c34 s,
 a0n fun r _=>c0X r.n,c32⟩
@[simp] theorem d2y:a0b FH2 169=some (.pu b3y):=(rfl)
@[simp] theorem d2z:a0b FH2 170=some (.pu b3z):=(rfl)
@[simp] theorem e2w {n:Nat} (h:(n==169||n==170)=false):a0b FH2 n=a0b FH1 n:=by
 simp only [Bool.or_eq_false_iff,beq_eq_false_iff_ne,ne_eq] at h
 simp [FH2,a0b,h]
def a1c (s:List UInt8):AV:=match runesL s with
 |some l=>.t [(false,[.nw 21 1 (a0a l)]),(false,[.raw (.bool true)])]
 |none=>.t [(false,[.nw 21 1 []]),(false,[.raw (.bool false)])]
def d7k (s:List UInt8) (q:Nat) (st:St):Prop:=∃(i f:Nat) (L:List Rn) (c:AC),q=f/\f+L.length=s.length/\(i<s.length->L.length<=i)/\i<=s.length+4/\st.s 0=.c (.str s)/\st.s 4=.c c/\st.s 5=.c (.raw (.int .i64 i))/\
 a8Y st.H 21 1 0 c L/\(a4B s f i).map (L++·)=runesL s/\a0D st.H st.T
theorem a9U (s:List UInt8) (hs:s.length<1000000):PEv Tryz.prog 119 [.c (.str s)] (a1c s):=by
 refine a0e mixed c8c Tryz.func119 e7t e7u (by kernel_rfl) (by unfold a1c;split<;>simp [b0r]) (by simp) ?_
 simp [e7s]
 refine a6y (d7k s) s.length ⟨0,s.length,[],.raw (.slice none 0 0),rfl,by simp,by simp,by omega,by simp,by simp,by simp,a8Y.nil,by simp [runesL],by simp;exact a1i.mono (by omega)⟩ ?_
 rintro q st ⟨i,f,L,c,rfl,hf1,hf2,hi,k0,k4,k5,hc,hR,hf⟩ J hJ
 have hfu:∀k d,st.T<=k->st.H (k,d)=.a0h:=hf
 by_cases hlt:i<s.length
 ·have hlt':(i:Int)<s.length:=by omega
  have hL:=hf2 hlt
  obtain ⟨f',rfl⟩:∃f',q=f'+1:=⟨q-1,by omega⟩
  rw [a4B,if_pos hlt] at hR
  have hd:=decode_at s i hlt
  have hw4:=c35 s i
  have hw1:=c36 s i hlt
  rcases hp:a5n s i with ⟨r,w⟩
  rw [hp] at hd hw4 hw1 hR
  simp only at hw4 hw1 hR
  have hdv:a7D (s.drop i)=.t [(false,[.raw (.int .i32 (r:Int))]),(false,[.raw (.int .i64 (w:Int))])]:=by rw [a7D,hd]
  have hw:IntKind.wrap .i64 ((i:Int)+w)=((i+w:Nat):Int):=by rw [a0d]<;>omega
  have hil:(i:Int)<=s.length:=by omega
  have f1s:i<=s.length:=by omega
  cases hb:a2h (r:Int)
  ·rw [hb] at hR
   simp at hR
   have hav:a1c s=.t [(false,[.nw 21 1 []]),(false,[.raw (.bool false)])]:=by rw [a1c,<-hR]
   simp [b09,k0,k4,k5,hlt',hil,f1s,hfu,hdv,hb,hav]
  ·rw [hb] at hR
   simp at hR
   have hR':Option.map (fun x=>(L++[⟨(r:Int)⟩])++x) (a4B s f' (i+w))=runesL s:=by rw [<-hR];simp [Function.comp_def]
   have hlen:1+(L.length+1)<=s.length+1:=by omega
   rcases hc with ⟨rfl,rfl⟩|⟨id,rfl,b0p,hid⟩
   ·simp (maxDischargeDepth:=8) [b09,k0,k4,k5,hlt',hil,f1s,hfu,hdv,hb,hw,Nat.le_add_right_of_le]
    refine ⟨f',by omega,hJ _ _ ⟨i+w,f',[⟨(r:Int)⟩],.so (st.T+3,25) 0 1,rfl,by simp at hf1 ⊢;omega,fun _=>by simp;omega,by omega,by simp [k0],by simp,by simp,a8Y.so rfl (Nat.zero_le _) (by simp;rfl),by simpa using hR',?_⟩⟩
    simp
    repeat' (first|exact hf.mono (by first|omega|(simp<;>omega))|(refine a0D.set' ?_ (by first|omega|(simp<;>omega))))
   ·obtain ⟨f1,f2,f3⟩:=hf.arr hid
    simp (maxDischargeDepth:=8) [b09,k0,k4,k5,hlt',hil,f1s,hfu,hdv,hb,hw,hid,f1,f2,Nat.le_add_right_of_le]
    refine ⟨by omega,f',by omega,hJ _ _ ⟨i+w,f',L++[⟨(r:Int)⟩],.so (st.T+3,25) 0 (L.length+1),rfl,by simp;omega,fun _=>by simp;omega,by omega,by simp [k0],by simp,by simp,a8Y.so (by simp) (Nat.zero_le _) (by simp [a0a]),hR',?_⟩⟩
    simp
    repeat' (first|exact hf.mono (by first|omega|(simp<;>omega))|(refine a0D.set' ?_ (by first|omega|(simp<;>omega))))
 ·have hlt':¬(i:Int)<s.length:=by omega
  have hg:a4B s q i=some []:=by
   cases q with
   |zero=>rfl
   |succ q=>rw [a4B,if_neg hlt]
  rw [hg] at hR
  simp at hR
  rcases hc with ⟨rfl,rfl⟩|⟨id,rfl,b0p,hid⟩
  ·have hav:a1c s=.t [(false,[.nw 21 1 []]),(false,[.raw (.bool true)])]:=by rw [a1c,<-hR];rfl
   simp [b09,k0,k4,k5,hlt',hav]
  ·obtain ⟨f1,f2,f3⟩:=hf.arr hid
   have hav:a1c s=.t [(false,[.nw 21 1 (a0a L)]),(false,[.raw (.bool true)])]:=by rw [a1c,<-hR]
   simp [b09,k0,k4,k5,hlt',hid,f1,f2,hav]
open Go Go.Proofs
def b3A:List AV->Option (Prop×AV):=t1 (fun _=>True) fun e:a0B=>.c (.raw (.bool (a2P e)))
@[simp] theorem d7l {l:List AV}:b3A l=(t1 (fun _=>True) fun e:a0B=>.c (.raw (.bool (a2P e)))) l:=(rfl)
def b3B:List AV->Option (Prop×AV):=t2 (fun _ _=>True) fun (o:OpV) (e:a0B)=>.c (.raw (.bool (ownB o e)))
@[simp] theorem d7m {l:List AV}:b3B l=(t2 (fun _ _=>True) fun (o:OpV) (e:a0B)=>.c (.raw (.bool (ownB o e)))) l:=(rfl)
def b3C:List AV->Option (Prop×AV):=t2 (fun _ _=>True) fun a b:a0B=>.c (.raw (.bool (a7Y a b)))
@[simp] theorem d7n {l:List AV}:b3C l=(t2 (fun _ _=>True) fun a b:a0B=>.c (.raw (.bool (a7Y a b)))) l:=(rfl)
def b3D:List AV->Option (Prop×AV):=t1 (fun s=>s.length<1000000) fun s:List UInt8=>a1c s
@[simp] theorem d7o {l:List AV}:b3D l=(t1 (fun s=>s.length<1000000) fun s:List UInt8=>a1c s) l:=(rfl)
def FH3:CT:=(118,.pu b3A)::(121,.pu b3B)::(122,.pu b3C)::(119,.pu b3D)::FH2
theorem c8d:a1k Tryz.prog FH3:=⟨a0n fun e _=>b9K e,
 a0R fun o e _=>c33 o e,
 a0R fun a b _=>c0Y a b,
 a0n fun s h=>a9U s h,c8c⟩
@[simp] theorem d2A:a0b FH3 118=some (.pu b3A):=(rfl)
@[simp] theorem d2B:a0b FH3 121=some (.pu b3B):=(rfl)
@[simp] theorem d2C:a0b FH3 122=some (.pu b3C):=(rfl)
@[simp] theorem d2D:a0b FH3 119=some (.pu b3D):=(rfl)
@[simp] theorem e2x {n:Nat} (h:(n==118||n==121||n==122||n==119)=false):a0b FH3 n=a0b FH2 n:=by
 simp only [Bool.or_eq_false_iff,beq_eq_false_iff_ne,ne_eq] at h
 simp [FH3,a0b,h]
theorem c0Z (a b:Int):PEv Tryz.prog 117 [.c (.raw (.int .i64 a)),.c (.raw (.int .i64 b))] (.c (.raw (.bool (nameB a b)))):=by
 refine a0e mixed c8d Tryz.func117 e7n e7o (by kernel_rfl) (by simp) (by simp) ?_
 have e:nameB a b=((decide (1<=a)&&decide (a<=8))&&(decide (1<=b)&&decide (b<=268435456))):=by simp [nameB]
 cases c1:decide (1<=a)
 ·simp [d5g,e,c1]
 cases c2:decide (a<=8)
 ·simp [d5g,e,c1,c2]
 ·simp [d5g,e,c1,c2]
def b3E:List AV->Option (Prop×AV):=t2 (fun _ _=>True) fun a b:Int=>.c (.raw (.bool (nameB a b)))
@[simp] theorem d7p {l:List AV}:b3E l=(t2 (fun _ _=>True) fun a b:Int=>.c (.raw (.bool (nameB a b)))) l:=(rfl)
def FH4:CT:=(117,.pu b3E)::FH3
theorem c8e:a1k Tryz.prog FH4:=⟨a0R fun a b _=>c0Z a b,c8d⟩
@[simp] theorem d2E:a0b FH4 117=some (.pu b3E):=(rfl)
@[simp] theorem e2y {n:Nat} (h:(n==117)=false):a0b FH4 n=a0b FH3 n:=by
 simp only [Bool.or_eq_false_iff,beq_eq_false_iff_ne,ne_eq] at h
 simp [FH4,a0b,h]
theorem b7y (e:a0B):PEv Tryz.prog 120 [Arg.enc e] (.c (.raw (.bool (a16 e)))):=by
 refine a0e mixed c8e Tryz.func120 e7v e7w (by kernel_rfl) (by simp) (by simp) ?_
 have h12:decide (e.i<12)=decide (e.i<=11):=by
  by_cases h:e.i<12
  ·simp [h];omega
  ·simp [h];omega
 have he:a16 e=(a2P e||(nameB e.site e.seq&&decide (0<=e.i)&&decide (e.i<=11))):=by rw [a16,h12,a2P]
 cases c1:a2P e
 rotate_left
 ·simp [d5h,he,c1]
 cases c2:nameB e.site e.seq
 ·simp [d5h,he,c1,c2]
 ·simp [d5h,he,c1,c2]
def b3F:List AV->Option (Prop×AV):=t1 (fun _=>True) fun e:a0B=>.c (.raw (.bool (a16 e)))
@[simp] theorem d7q {l:List AV}:b3F l=(t1 (fun _=>True) fun e:a0B=>.c (.raw (.bool (a16 e)))) l:=(rfl)
def FH5:CT:=(120,.pu b3F)::FH4
theorem c8f:a1k Tryz.prog FH5:=⟨a0n fun e _=>b7y e,c8e⟩
@[simp] theorem d2F:a0b FH5 120=some (.pu b3F):=(rfl)
@[simp] theorem e2z {n:Nat} (h:(n==120)=false):a0b FH5 n=a0b FH4 n:=by
 simp only [Bool.or_eq_false_iff,beq_eq_false_iff_ne,ne_eq] at h
 simp [FH5,a0b,h]
def c6Q (o:OpV) (q:Nat) (st:St):Prop:=∃i:Nat,i<=o.gone.length/\q=o.gone.length-i/\st.s 1=.c (.pt (0,1) 0 0)/\st.s 5=.c (.raw (.int .i64 i))/\st.H (0,1)=.arr 53 11 false [a0f .brw o]/\a0D st.H st.T/\
 a2S o (a4p o.gone i) (o.gone.drop i)=a2S o none o.gone
theorem c6R {Q:AEx->St->Prop} {st:St} (o:OpV) (hl:o.gone.length<=200) (k1:st.s 1=.c (.pt (0,1) 0 0)) (k5:st.s 5=.c (.raw (.int .i64 0))) (hH:st.H (0,1)=.arr 53 11 false [a0f .brw o]) (hf:a0D st.H st.T)
  (hn:a2S o none o.gone=true->∀st',Q (.exit 0) st') (hr:a2S o none o.gone=false->∀st',st'.s 2=.c (.raw (.bool false))->Q .ret st') :
  a2K Tryz.prog FH5 (.loop d5d) Q st:=by
 refine a6y (c6Q o) o.gone.length ⟨0,by simp [a4p,k1,k5,hH,hf]⟩ ?_
 rintro n st ⟨i,hi,rfl,h1,h5,hH,hf,hp⟩ J hJ
 have hfu:∀k d,st.T<=k->st.H (k,d)=.a0h:=hf
 by_cases hlt:i<o.gone.length
 ·have hlt':(i:Int)<o.gone.length:=by omega
  have hw:IntKind.wrap .i64 ((i:Int)+1)=((i+1:Nat):Int):=by rw [a0d]<;>omega
  rw [b1k o hlt,b1u] at hp
  refine a3t (fun st'=>st'.s 1=.c (.pt (0,1) 0 0)/\st'.s 5=.c (.raw (.int .i64 i))/\st'.H (0,1)=.arr 53 11 false [a0f .brw o]/\a0D st'.H st'.T) ?_ ?_
  ·intro R' hR
   simp [h1,h5,hH,a0f,hlt,hlt',hfu]
   exact hR _ ⟨by simp [h1],by simp [h5],by simpa [a0f] using hH,by simp;exact hf.mono (by omega)⟩
  clear h1 h5 hH hf hfu
  rintro st' ⟨h1,h5,hH,hf⟩
  have hfu:∀k d,st'.T<=k->st'.H (k,d)=.a0h:=hf
  cases z:a2P o.gone[i]
  ·rw [z] at hp
   cases he:a16 o.gone[i]
   ·have hg:a2S o none o.gone=false:=by simp [<-hp,he]
    simp [h1,h5,hH,a0f,hlt,hlt',hw,hfu,z,he]
    exact hr hg _ (by simp)
   ·cases hw':ownB o o.gone[i]
    ·by_cases h0:i=0
     ·subst h0
      have hp':a2S o (a4p o.gone 1) (o.gone.drop 1)=a2S o none o.gone:=by rw [<-hp];simp [he,hw',a4p]
      simp [h1,h5,hH,a0f,hlt,hlt',hw,hfu,z,he,hw']
      refine ⟨o.gone.length-1,by omega,hJ _ _ ⟨1,by omega,rfl,by simp [h1],by simp;decide,by simpa [a0f] using hH,?_,hp'⟩⟩
      simp
      repeat' (first|exact hf.mono (by first|omega|(simp<;>omega))|(refine a0D.set' ?_ (by first|omega|(simp<;>omega))))
     ·obtain ⟨j,hj⟩:∃j,j+1=i:=⟨i-1,by omega⟩
      have hjl:j<o.gone.length:=by omega
      have hpe:a4p o.gone i=some o.gone[j]:=by subst hj;simp [a4p,hjl]
      have hs:IntKind.wrap .i64 ((i:Int)-1)=(j:Int):=by rw [a0d]<;>omega
      have hpos:0<i:=by omega
      cases hl':a7Y o.gone[j] o.gone[i]
      ·have hg:a2S o none o.gone=false:=by simp [<-hp,he,hpe,hl']
       simp [h1,h5,hH,a0f,hlt,hlt',hw,hfu,z,he,hw',hl',hs,hjl,hpos,h0]
       exact hr hg _ (by simp)
      ·have hp':a2S o (a4p o.gone (i+1)) (o.gone.drop (i+1))=a2S o none o.gone:=by rw [<-hp];simp [he,hw',hpe,hl']
       simp [h1,h5,hH,a0f,hlt,hlt',hw,hfu,z,he,hw',hl',hs,hjl,hpos,h0]
       refine ⟨o.gone.length-(i+1),by omega,hJ _ _ ⟨i+1,by omega,rfl,by simp [h1],by simp,by simpa [a0f] using hH,?_,hp'⟩⟩
       simp
       repeat' (first|exact hf.mono (by first|omega|(simp<;>omega))|(refine a0D.set' ?_ (by first|omega|(simp<;>omega))))
    ·have hg:a2S o none o.gone=false:=by simp [<-hp,he,hw']
     simp [h1,h5,hH,a0f,hlt,hlt',hw,hfu,z,he,hw']
     exact hr hg _ (by simp)
  ·rw [z] at hp
   have hg:a2S o none o.gone=false:=by simp [<-hp]
   simp [h1,h5,hH,a0f,hlt,hlt',hw,hfu,z]
   exact hr hg _ (by simp)
 ·have hlt':¬(i:Int)<o.gone.length:=by omega
  have hi2:i=o.gone.length:=by omega
  have hg:a2S o none o.gone=true:=by
   subst hi2
   simp at hp
   rw [<-hp];cases a4p o.gone o.gone.length<;>rfl
  refine c9z 0 (fun _=>True) ?_ fun st' _=>hn hg st'
  intro R' hR
  simp [h1,h5,hH,a0f,hlt,hlt']
  exact hR _ trivial
open Go Go.Proofs
def d0g (o:OpV) (st:St):Prop:=st.s 1=.c (.pt (0,1) 0 0)/\st.H (0,1)=.arr 53 11 false [a0f .brw o]/\a0D st.H st.T
theorem c37 {s:List UInt8} {X:List Rn} (hX:runesL s=some X):decide (X=[])=decide (s=[]):=by
 cases s with
 |nil=>cases hX;rfl
 |cons b s=>
  cases X with
  |nil=>
   rw [runesL] at hX
   simp only [List.length_cons,a4B] at hX
   rw [if_pos (by simp)] at hX
   split at hX
   ·simp at hX
   ·cases hX
  |cons x X=>simp
theorem c00 (o:OpV):a1H o=(nameB o.of_ o.num&&(!decide (o.of_=o.site)||!decide (o.num=o.seq))&&decide (0<=o.gen)&&decide (o.gen<=268435456)&&a2P o.after&&decide (o.text=[])&&decide (o.gone=[])):=by
 have e1:(!decide (o.gen<0))=decide (0<=o.gen):=by by_cases h:o.gen<0<;>simp [h]<;>omega
 have e2:(!decide (268435456<o.gen))=decide (o.gen<=268435456):=by by_cases h:268435456<o.gen<;>simp [h]<;>omega
 rw [a1H,e1,e2,a2P,Bool.not_and]
theorem c38 {o:OpV} (c1:nameB o.site o.seq=true) (ck:¬o.kind=2):a0s o=(decide (o.kind=1)&&decide (o.of_=0)&&decide (o.num=0)&&decide (o.gen=0)&&!decide (200<o.gone.length)&&!(decide (o.text=[])&&decide (o.gone=[]))&&
  a36 o.text&&decide (a05 o.text<=12)&&a16 o.after&&!(decide (o.text=[])&&!a2P o.after)&&!ownB o o.after&&a2S o none o.gone):=by
 have e1:decide (o.gone.length<=200)=!decide (200<o.gone.length):=by by_cases h:o.gone.length<=200<;>simp [h]<;>omega
 have e2:decide (o.gone.length=0)=decide (o.gone=[]):=by cases o.gone<;>simp
 simp only [a0s,c1,ck,Bool.true_and,decide_false,Bool.false_and]
 by_cases hk:o.kind=1
 ·simp only [hk,if_true,a3Q,a38,e1,e2,b1u,decide_true,Bool.true_and]
  cases a16 o.after<;>cases ownB o o.after<;>cases a36 o.text<;>cases a2S o none o.gone<;>cases decide (o.of_=0)<;>cases decide (o.num=0)<;>cases decide (o.gen=0)<;>cases decide (a05 o.text<=12)<;>cases decide (200<o.gone.length)<;>simp [Bool.and_comm]
 ·simp [hk]
theorem b5V (o:OpV) (h1:o.text.length<1000000) (h2:o.gone.length<4611686018427387904):PEv Tryz.prog 64 [Arg.enc o] (.c (.raw (.bool (a0s o)))):=by
 refine a0e mixed c8f Tryz.func64 sl64 f6N (by kernel_rfl) (by simp) (by simp [a0f]) ?_
 have hfin:∀st',st'.s 2=.c (.raw (.bool (a0s o)))->c1N Tryz.prog Tryz.f64 (.c (.raw (.bool (a0s o)))) .ret st':=fun st' h=>by simp [h]
 have hno:a0s o=false->∀st',st'.s 2=.c (.raw (.bool false))->c1N Tryz.prog Tryz.f64 (.c (.raw (.bool (a0s o)))) .ret st':=fun hm st' h=>hfin st' (by rw [h,hm])
 refine a3t (d0g o) ?_ ?_
 ·intro R' hR
  simp [a0f]
  exact hR _ ⟨by simp,by simp [a0f],by simp;(repeat' (first|exact a1i.mono (Nat.zero_le _)|(refine a0D.set' ?_ (by simp))))⟩
 rintro st ⟨k1,hH,hf⟩
 have hfu:∀k d,st.T<=k->st.H (k,d)=.a0h:=hf
 cases c1:nameB o.site o.seq
 ·refine a4F (fun st'=>st'.s 2=.c (.raw (.bool false))) ?_ (hno (by simp [a0s,c1]))
  intro R' hR
  simp [k1,hH,a0f,c1]
  exact hR _ (by simp)
 refine a3t (d0g o) ?_ ?_
 ·intro R' hR
  simp [k1,hH,a0f,c1]
  exact hR _ ⟨by simp [k1],by simpa [a0f] using hH,by simp;exact hf.mono (by omega)⟩
 clear k1 hH hf hfu
 rintro st ⟨k1,hH,hf⟩
 have hfu:∀k d,st.T<=k->st.H (k,d)=.a0h:=hf
 cases ck:decide (o.kind=2)
 rotate_left
 ·have ck':o.kind=2:=of_decide_eq_true ck
  have hm:a0s o=a1H o:=by simp [a0s,c1,ck']
  refine a4F (fun st'=>st'.s 2=.c (.raw (.bool (a1H o)))) ?_ fun st' h=>hfin st' (by rw [h,hm])
  intro R' hR
  have g1:=c00 o
  cases c2:nameB o.of_ o.num
  ·simp [k1,hH,a0f,ck,c2]
   exact hR _ (by simp [g1,c2])
  cases c3:(!decide (o.of_=o.site)||!decide (o.num=o.seq))
  ·have c3':=Bool.or_eq_false_iff.1 c3
   have c4:decide (o.of_=o.site)=true:=by simpa using c3'.1
   have c5:decide (o.num=o.seq)=true:=by simpa using c3'.2
   simp [k1,hH,a0f,ck,c2,c4,c5]
   exact hR _ (by simp [g1,c2,c4,c5])
  cases c6:decide (0<=o.gen)
  ·cases c4:decide (o.of_=o.site)
   ·simp [k1,hH,a0f,ck,c2,c4,c6]
    exact hR _ (by simp [g1,c6])
   ·have c5:decide (o.num=o.seq)=false:=by simpa [c4] using c3
    simp [k1,hH,a0f,ck,c2,c4,c5,c6]
    exact hR _ (by simp [g1,c6])
  cases c4:decide (o.of_=o.site)
  ·cases c7:decide (o.gen<=268435456)
   ·simp [k1,hH,a0f,ck,c2,c4,c6,c7]
    exact hR _ (by simp [g1,c7])
   cases c8:a2P o.after
   ·simp [k1,hH,a0f,ck,c2,c4,c6,c7,c8]
    exact hR _ (by simp [g1,c8])
   cases c9:decide (o.text=[])
   ·simp [k1,hH,a0f,ck,c2,c4,c6,c7,c8,c9]
    exact hR _ (by simp [g1,c9])
   ·simp [k1,hH,a0f,ck,c2,c4,c6,c7,c8,c9]
    exact hR _ (by simp [g1,c2,c4,c6,c7,c8,c9])
  ·have c5:decide (o.num=o.seq)=false:=by simpa [c4] using c3
   cases c7:decide (o.gen<=268435456)
   ·simp [k1,hH,a0f,ck,c2,c4,c5,c6,c7]
    exact hR _ (by simp [g1,c7])
   cases c8:a2P o.after
   ·simp [k1,hH,a0f,ck,c2,c4,c5,c6,c7,c8]
    exact hR _ (by simp [g1,c8])
   cases c9:decide (o.text=[])
   ·simp [k1,hH,a0f,ck,c2,c4,c5,c6,c7,c8,c9]
    exact hR _ (by simp [g1,c9])
   ·simp [k1,hH,a0f,ck,c2,c4,c5,c6,c7,c8,c9]
    exact hR _ (by simp [g1,c2,c4,c5,c6,c7,c8,c9])
 have ck':¬o.kind=2:=of_decide_eq_false ck
 have hm:=c38 c1 ck'
 refine a3t (d0g o) ?_ ?_
 ·intro R' hR
  simp [k1,hH,a0f,ck]
  exact hR _ ⟨by simp [k1],by simpa [a0f] using hH,by simp;exact hf.mono (by omega)⟩
 clear k1 hH hf hfu
 rintro st ⟨k1,hH,hf⟩
 have hfu:∀k d,st.T<=k->st.H (k,d)=.a0h:=hf
 cases d2:decide (o.kind=1)
 ·refine a4F (fun st'=>st'.s 2=.c (.raw (.bool false))) ?_ (hno (by simp [hm,d2]))
  intro R' hR
  simp [k1,hH,a0f,d2]
  exact hR _ (by simp)
 cases d3:decide (o.of_=0)
 ·refine a4F (fun st'=>st'.s 2=.c (.raw (.bool false))) ?_ (hno (by simp [hm,d3]))
  intro R' hR
  simp [k1,hH,a0f,d2,d3]
  exact hR _ (by simp)
 cases d4:decide (o.num=0)
 ·refine a4F (fun st'=>st'.s 2=.c (.raw (.bool false))) ?_ (hno (by simp [hm,d4]))
  intro R' hR
  simp [k1,hH,a0f,d2,d3,d4]
  exact hR _ (by simp)
 cases d5:decide (o.gen=0)
 ·refine a4F (fun st'=>st'.s 2=.c (.raw (.bool false))) ?_ (hno (by simp [hm,d5]))
  intro R' hR
  simp [k1,hH,a0f,d2,d3,d4,d5]
  exact hR _ (by simp)
 cases d6:decide (200<o.gone.length)
 rotate_left
 ·have d6':(200:Int)<o.gone.length:=by have:=of_decide_eq_true d6;omega
  refine a4F (fun st'=>st'.s 2=.c (.raw (.bool false))) ?_ (hno (by simp [hm,d6]))
  intro R' hR
  simp [k1,hH,a0f,d2,d3,d4,d5,d6']
  exact hR _ (by simp)
 have d6':¬(200:Int)<o.gone.length:=by have:=of_decide_eq_false d6;omega
 have hg200:o.gone.length<=200:=by have:=of_decide_eq_false d6;omega
 cases d7:(decide (o.text=[])&&decide (o.gone=[]))
 rotate_left
 ·obtain ⟨d8,d9⟩:=Bool.and_eq_true_iff.1 d7
  refine a4F (fun st'=>st'.s 2=.c (.raw (.bool false))) ?_ (hno (by simp [hm,d8,d9]))
  intro R' hR
  simp [k1,hH,a0f,d2,d3,d4,d5,d6',d8,d9]
  exact hR _ (by simp)
 refine a3t (d0g o) ?_ ?_
 ·intro R' hR
  cases d8:decide (o.text=[])
  ·simp [k1,hH,a0f,d2,d3,d4,d5,d6',d8]
   exact hR _ ⟨by simp [k1],by simpa [a0f] using hH,by simp;exact hf.mono (by omega)⟩
  ·have d9:decide (o.gone=[])=false:=by simpa [d8] using d7
   simp [k1,hH,a0f,d2,d3,d4,d5,d6',d8,d9]
   exact hR _ ⟨by simp [k1],by simpa [a0f] using hH,by simp;exact hf.mono (by omega)⟩
 clear k1 hH hf hfu
 rintro st ⟨k1,hH,hf⟩
 have hfu:∀k d,st.T<=k->st.H (k,d)=.a0h:=hf
 have htx:=a9T o.text
 cases hx:runesL o.text with
 |none=>
  rw [hx] at htx
  have hav:a1c o.text=.t [(false,[.nw 21 1 []]),(false,[.raw (.bool false)])]:=by rw [a1c,hx]
  obtain ⟨p1,p2,p3⟩:=hf.arr hH
  refine a3t (fun st'=>d0g o st'/\st'.s 4=.c (.raw (.bool false))) ?_ ?_
  ·intro R' hR
   simp [k1,hH,a0f,h1,hav,hfu]
   exact hR _ ⟨⟨by simp [k1],by simpa [a0f,p2] using hH,by simp;repeat' (first|exact hf.mono (by first|omega|(simp<;>omega))|(refine a0D.set' ?_ (by first|omega|(simp<;>omega))))⟩,by simp⟩
  rintro st ⟨⟨k1,hH,hf⟩,k4⟩
  refine a4F (fun st'=>st'.s 2=.c (.raw (.bool false))) ?_ (hno (by simp [hm,htx]))
  intro R' hR
  simp [k1,k4,hH,a0f]
  exact hR _ (by simp)
 |some X=>
  rw [hx] at htx
  have hav:a1c o.text=.t [(false,[.nw 21 1 (a0a X)]),(false,[.raw (.bool true)])]:=by rw [a1c,hx]
  have hn:=b1v hx
  have hX0:=c37 hx
  have hXl:decide (X.length=0)=decide (o.text=[]):=by rw [<-hX0];cases X<;>simp
  obtain ⟨p1,p2,p3⟩:=hf.arr hH
  refine a3t (fun st'=>d0g o st'/\st'.s 4=.c (.raw (.bool true))/\∃g,st'.s 3=.c (.so g 0 X.length)/\st'.H g=.arr 21 1 false (a0a X)) ?_ ?_
  ·intro R' hR
   simp [k1,hH,a0f,h1,hav,hfu]
   exact hR _ ⟨⟨by simp [k1],by simpa [a0f,p2] using hH,by simp;repeat' (first|exact hf.mono (by first|omega|(simp<;>omega))|(refine a0D.set' ?_ (by first|omega|(simp<;>omega))))⟩,by simp,_,by simp;rfl,by simp⟩
  clear k1 hH hf hfu p1 p2 p3
  rintro st ⟨⟨k1,hH,hf⟩,k4,g,k3,hg⟩
  have hfu:∀k d,st.T<=k->st.H (k,d)=.a0h:=hf
  cases d10:decide (a05 o.text<=12)
  ·have c8G:(12:Int)<X.length:=by have:=of_decide_eq_false d10;omega
   refine a4F (fun st'=>st'.s 2=.c (.raw (.bool false))) ?_ (hno (by simp [hm,d10]))
   intro R' hR
   simp [k1,k3,k4,hg,hH,a0f,c8G]
   exact hR _ (by simp)
  have c8G:¬(12:Int)<X.length:=by have:=of_decide_eq_true d10;omega
  cases d11:a16 o.after
  ·refine a4F (fun st'=>st'.s 2=.c (.raw (.bool false))) ?_ (hno (by simp [hm,d11]))
   intro R' hR
   simp [k1,k3,k4,hg,hH,a0f,c8G,d11]
   exact hR _ (by simp)
  cases d12:(decide (o.text=[])&&!a2P o.after)
  rotate_left
  ·obtain ⟨d13,d14⟩:=Bool.and_eq_true_iff.1 d12
   rw [Bool.not_eq_true'] at d14
   have d15:X=[]:=by rw [d13] at hX0;exact of_decide_eq_true hX0
   refine a4F (fun st'=>st'.s 2=.c (.raw (.bool false))) ?_ (hno (by simp [hm,d13,d14]))
   intro R' hR
   subst d15
   simp [k1,k3,k4,hg,hH,a0f,c8G,d11,d14]
   exact hR _ (by simp)
  cases d16:ownB o o.after
  rotate_left
  ·refine a4F (fun st'=>st'.s 2=.c (.raw (.bool false))) ?_ (hno (by simp [hm,d16]))
   intro R' hR
   cases d13:decide (X=[])
   ·simp [k1,k3,k4,hg,hH,a0f,c8G,d11,d13,d16]
    exact hR _ (by simp)
   ·have d14:a2P o.after=true:=by rw [hX0] at d13;simpa [d13] using d12
    simp [k1,k3,k4,hg,hH,a0f,c8G,d11,d13,d14,d16]
    exact hR _ (by simp)
  refine a3t (d0g o) ?_ ?_
  ·intro R' hR
   cases d13:decide (X=[])
   ·simp [k1,k3,k4,hg,hH,a0f,c8G,d11,d13,d16]
    exact hR _ ⟨by simp [k1],by simpa [a0f] using hH,by simp;exact hf.mono (by omega)⟩
   ·have d14:a2P o.after=true:=by rw [hX0] at d13;simpa [d13] using d12
    simp [k1,k3,k4,hg,hH,a0f,c8G,d11,d13,d14,d16]
    exact hR _ ⟨by simp [k1],by simpa [a0f] using hH,by simp;exact hf.mono (by omega)⟩
  clear k1 k3 k4 hg hH hf hfu
  rintro st ⟨k1,hH,hf⟩
  have hfu:∀k d,st.T<=k->st.H (k,d)=.a0h:=hf
  have hm2:a0s o=a2S o none o.gone:=by
   have f8D:(!decide (o.text=[])||a2P o.after)=true:=by
    have:=congrArg (!·) d12
    simpa using this
   rw [hm,htx,d2,d3,d4,d5,d6,d7,d10,d11,d12,d16]
   simp
  simp
  refine c6R o hg200 (by simp [k1]) (by simp) (by simpa using hH) (by simp;exact hf.mono (by omega)) (fun hg st'=>?_) (fun hg st' h=>?_)
  ·simp [hm2,hg]
  ·simp [h,hm2,hg]
open Go Go.Proofs
def b7z:List AV->Option (Prop×AV):=t1 (fun o=>o.text.length<1000000/\o.gone.length<4611686018427387904) fun o:OpV=>.c (.raw (.bool (a0s o)))
@[simp] theorem e2A {l:List AV}:b7z l=(t1 (fun o=>o.text.length<1000000/\o.gone.length<4611686018427387904) fun o:OpV=>.c (.raw (.bool (a0s o)))) l:=(rfl)
def FH6:CT:=(64,.pu b7z)::FH5
theorem c8g:a1k Tryz.prog FH6:=⟨a0n fun o h=>b5V o h.1 h.2,c8f⟩
@[simp] theorem d7r:a0b FH6 64=some (.pu b7z):=(rfl)
@[simp] theorem e2B {n:Nat} (h:(n==64)=false):a0b FH6 n=a0b FH5 n:=by
 simp only [Bool.or_eq_false_iff,beq_eq_false_iff_ne,ne_eq] at h
 simp [FH6,a0b,h]
theorem b7A (e:a0k) (h1:e.op.text.length<1000000) (h2:e.op.gone.length<4611686018427387904):PEv Tryz.prog 145 [Arg.enc e] (.c (.raw (.bool (a0H e)))):=by
 refine a0e mixed c8g Tryz.func145 e7U e7V (by kernel_rfl) (by simp) (by simp [a0q,a0f]) ?_
 have hz:a2B e.op ⟨0,0,0,⟨0,0,0⟩,[],[],0,0,0⟩=a2B e.op a0V:=rfl
 cases c1:e.join
 ·have hm:a0H e=(decide (e.a0N=0)&&a0s e.op):=by simp [a0H,c1]
  cases c2:decide (e.a0N=0)
  ·simp [c9K,a0q,a0f,c1,c2,hm]
  ·simp [c9K,a0q,a0f,c1,c2,hm,h1,h2]
 ·have hm:a0H e=(decide (1<=e.a0N)&&decide (e.a0N<=268435456)&&a2B e.op a0V):=by simp [a0H,c1]
  cases c2:decide (1<=e.a0N)
  ·simp [c9K,a0q,a0f,c1,c2,hm]
  cases c3:decide (e.a0N<=268435456)
  ·simp [c9K,a0q,a0f,c1,c2,c3,hm]
  ·simp [c9K,a0q,a0f,c1,c2,c3,hm,h2,hz]
def a1m (r:RdV):Int×RdV:=match r.bad,takeN r.s with
 |false,some (n,t)=>((n:Int),⟨t,false⟩)
 |_,_=>(0,⟨r.s,true⟩)
def a2l (r:RdV):List UInt8×RdV:=match r.bad,decide ((a0L r.s).2.2=0) with
 |false,true=>((a0L r.s).1,⟨(a0L r.s).2.1,false⟩)
 |_,_=>([],⟨r.s,true⟩)
theorem c6S:a5r Tryz.prog 210 (mh1 220 2 (rdG okR a1m b0s)):=by
 refine a4z c32 Tryz.func210 e9v e9w (by kernel_rfl) (by simp [b0s]) fun H T id r hid hf hr=>?_
 obtain ⟨s,bad⟩:=r
 have hr':s.length<4611686018427387904:=hr
 have hfu:∀k d,T<=k->H (k,d)=.a0h:=hf
 cases hn:takeN s with
 |none=>
  have hav:=a2X hn
  cases bad
  ·simp [d1k,hid,hfu,hr',a0W,hav]
   refine ⟨by simp [b0s,a1m,hn],?_,by simp [a1m,hn]⟩
   (repeat' (first|exact a0v.refl _ _|assumption|(refine a0v.set ?_ (by first|(right;simp;done)|(left;simp [hfu];done)|(left;exact hfu _ _ (by omega))|(left;assumption)))))
  ·simp [d1k,hid,hfu,hr',a0W,hav]
   refine ⟨by simp [b0s,a1m,hn],?_,by simp [a1m,hn]⟩
   (repeat' (first|exact a0v.refl _ _|assumption|(refine a0v.set ?_ (by first|(right;simp;done)|(left;simp [hfu];done)|(left;exact hfu _ _ (by omega))|(left;assumption)))))
 |some q=>
  obtain ⟨n,t⟩:=q
  have hav:=a1z hn
  cases bad
  ·simp [d1k,hid,hfu,hr',a0W,hav]
   refine ⟨by simp [b0s,a1m,hn],?_,by simp [a1m,hn]⟩
   (repeat' (first|exact a0v.refl _ _|assumption|(refine a0v.set ?_ (by first|(right;simp;done)|(left;simp [hfu];done)|(left;exact hfu _ _ (by omega))|(left;assumption)))))
  ·simp [d1k,hid,hfu,hr',a0W,hav]
   refine ⟨by simp [b0s,a1m,hn],?_,by simp [a1m,hn]⟩
   (repeat' (first|exact a0v.refl _ _|assumption|(refine a0v.set ?_ (by first|(right;simp;done)|(left;simp [hfu];done)|(left;exact hfu _ _ (by omega))|(left;assumption)))))
theorem c39:a5r Tryz.prog 212 (mh1 220 2 (rdG okR a2l b6y)):=by
 refine a4z c32 Tryz.func212 e9A e9B (by kernel_rfl) (by simp [b6y]) fun H T id r hid hf hr=>?_
 obtain ⟨s,bad⟩:=r
 have hr':s.length<4611686018427387904:=hr
 have hfu:∀k d,T<=k->H (k,d)=.a0h:=hf
 cases hn:decide ((a0L s).2.2=0)
 ·cases bad
  ·simp [d1l,hid,hfu,hr',a0W,a1q,hn]
   refine ⟨by simp [b6y,a2l,hn],?_,by simp [a2l,hn]⟩
   (repeat' (first|exact a0v.refl _ _|assumption|(refine a0v.set ?_ (by first|(right;simp;done)|(left;simp [hfu];done)|(left;exact hfu _ _ (by omega))|(left;assumption)))))
  ·simp [d1l,hid,hfu,hr',a0W,a1q,hn]
   refine ⟨by simp [b6y,a2l,hn],?_,by simp [a2l,hn]⟩
   (repeat' (first|exact a0v.refl _ _|assumption|(refine a0v.set ?_ (by first|(right;simp;done)|(left;simp [hfu];done)|(left;exact hfu _ _ (by omega))|(left;assumption)))))
 ·cases bad
  ·simp [d1l,hid,hfu,hr',a0W,a1q,hn]
   refine ⟨by simp [b6y,a2l,hn],?_,by simp [a2l,hn]⟩
   (repeat' (first|exact a0v.refl _ _|assumption|(refine a0v.set ?_ (by first|(right;simp;done)|(left;simp [hfu];done)|(left;exact hfu _ _ (by omega))|(left;assumption)))))
  ·simp [d1l,hid,hfu,hr',a0W,a1q,hn]
   refine ⟨by simp [b6y,a2l,hn],?_,by simp [a2l,hn]⟩
   (repeat' (first|exact a0v.refl _ _|assumption|(refine a0v.set ?_ (by first|(right;simp;done)|(left;simp [hfu];done)|(left;exact hfu _ _ (by omega))|(left;assumption)))))
def b3G:MH:=mh1 220 2 (rdG okR a1m b0s)
@[simp] theorem d7s {H:Heap} {l:List AV}:b3G H l=(mh1 220 2 (rdG okR a1m b0s)) H l:=(rfl)
def b3H:MH:=mh1 220 2 (rdG okR a2l b6y)
@[simp] theorem d7t {H:Heap} {l:List AV}:b3H H l=(mh1 220 2 (rdG okR a2l b6y)) H l:=(rfl)
def FJ0:CT:=(210,.mu b3G)::(212,.mu b3H)::FH6
theorem c8h:a1k Tryz.prog FJ0:=⟨c6S,
 c39,c8g⟩
@[simp] theorem d2G:a0b FJ0 210=some (.mu b3G):=(rfl)
@[simp] theorem d2H:a0b FJ0 212=some (.mu b3H):=(rfl)
@[simp] theorem e2C {n:Nat} (h:(n==210||n==212)=false):a0b FJ0 n=a0b FH6 n:=by
 simp only [Bool.or_eq_false_iff,beq_eq_false_iff_ne,ne_eq] at h
 simp [FJ0,a0b,h]
def a2E (r:RdV):a0B×RdV:=
 let a:=a1m r
 let b:=a1m a.2
 let c:=a1m b.2
 (⟨a.1,b.1,c.1⟩,c.2)
theorem a4C (r:RdV):(a1m r).2.s.length<=r.s.length:=by
 obtain ⟨s,bad⟩:=r
 cases hn:takeN s with
 |none=>cases bad<;>simp [a1m,hn]
 |some q=>
  obtain ⟨n,t⟩:=q
  have:=(a1W hn).2
  cases bad<;>simp [a1m,hn]<;>omega
theorem b5W (r:RdV):(a2l r).2.s.length<=r.s.length/\(a2l r).1.length<=r.s.length:=by
 obtain ⟨s,bad⟩:=r
 have:=a7y s
 cases hn:decide ((a0L s).2.2=0)<;>cases bad<;>simp [a2l,hn]<;>omega
theorem a3w {r:RdV} (h:okR r):okR (a1m r).2:=Nat.lt_of_le_of_lt (a4C r) h
theorem c4a {r:RdV} (h:okR r):okR (a2l r).2:=Nat.lt_of_le_of_lt (b5W r).1 h
theorem c4b {r:RdV} (h:okR r):okR (a2E r).2:=a3w (a3w (a3w h))
theorem c4c:a5r Tryz.prog 211 (mh1 220 2 (rdG okR a2E b1m)):=by
 refine a4z c8h Tryz.func211 e9y e9z (by kernel_rfl) (by simp [b1m]) fun H T id r hid hf hr=>?_
 obtain ⟨n1,n2,n3⟩:=hf.arr hid
 have hfu:∀k d,T<=k->H (k,d)=.a0h:=hf
 have c1:=a3w hr
 have c2:=a3w c1
 obtain ⟨s,bad⟩:=r
 rcases e1:a1m ⟨s,bad⟩ with ⟨a1,s1,b1⟩
 rw [e1] at c1 c2
 simp only at c1 c2
 rcases e2:a1m ⟨s1,b1⟩ with ⟨a2,s2,b2⟩
 rw [e2] at c2
 simp only at c2
 rcases e3:a1m ⟨s2,b2⟩ with ⟨a3,s3,b3⟩
 have e4:a2E ⟨s,bad⟩=(⟨a1,a2,a3⟩,⟨s3,b3⟩):=by simp [a2E,e1,e2,e3]
 simp [e9x,hid,hfu,hr,c1,c2,e1,e2,e3,e4,a0W,b0s,b1m,n1,n2]
 (repeat' (first|exact a0v.refl _ _|assumption|(refine a0v.set ?_ (by first|(right;simp;done)|(left;simp [hfu];done)|(left;exact hfu _ _ (by omega))|(left;assumption)))))
def b3I:MH:=mh1 220 2 (rdG okR a2E b1m)
@[simp] theorem d7u {H:Heap} {l:List AV}:b3I H l=(mh1 220 2 (rdG okR a2E b1m)) H l:=(rfl)
def FJ1:CT:=(211,.mu b3I)::FJ0
theorem c8i:a1k Tryz.prog FJ1:=⟨c4c,c8h⟩
@[simp] theorem d2I:a0b FJ1 211=some (.mu b3I):=(rfl)
@[simp] theorem e2D {n:Nat} (h:(n==211)=false):a0b FJ1 n=a0b FJ0 n:=by
 simp only [Bool.or_eq_false_iff,beq_eq_false_iff_ne,ne_eq] at h
 simp [FJ1,a0b,h]
open Go Go.Proofs
def a0M:Nat->RdV->List a0B×RdV
 |0,r=>([],r)
 |n+1,r=>if (a0M n r).2.bad=true then a0M n r else ((a0M n r).1++[(a2E (a0M n r).2).1],(a2E (a0M n r).2).2)
theorem a6U {r:RdV} {i:Nat} (h:(a0M i r).2.bad=true):∀k,a0M (i+k) r=a0M i r
 |0=>rfl
 |k+1=>by
  rw [<-Nat.add_assoc,a0M,a6U h k,if_pos h]
theorem a8d {r:RdV} {i:Nat} (h:(a0M i r).2.bad=false):a0M (i+1) r=((a0M i r).1++[(a2E (a0M i r).2).1],(a2E (a0M i r).2).2):=by
 rw [a0M,h];rfl
theorem a9V {r:RdV} (h:(a1m r).2.bad=false):r.bad=false/\(a1m r).2.s.length<r.s.length:=by
 obtain ⟨s,bad⟩:=r
 cases hn:takeN s with
 |none=>cases bad<;>simp [a1m,hn] at h
 |some q=>
  obtain ⟨n,t⟩:=q
  have:=(a1W hn).2
  cases bad<;>simp [a1m,hn] at h ⊢
  exact this
theorem b5X (r:RdV):(a2E r).2.s.length<=r.s.length:=
 Nat.le_trans (a4C _) (Nat.le_trans (a4C _) (a4C _))
theorem c01 {r:RdV} (h:(a2E r).2.bad=false):r.bad=false/\(a2E r).2.s.length<r.s.length:=by
 have h1:=a9V h
 have h2:=a9V h1.1
 have h3:=a9V h2.1
 exact ⟨h3.1,Nat.lt_trans h1.2 (Nat.lt_trans h2.2 h3.2)⟩
theorem a8e (r:RdV):∀i,(a0M i r).2.s.length<=r.s.length
 |0=>Nat.le_refl _
 |i+1=>by
  rw [a0M]
  split
  ·exact a8e r i
  ·exact Nat.le_trans (b5X _) (a8e r i)
theorem a6V (r:RdV):∀i,(a0M i r).2.bad=false->(a0M i r).1.length=i/\(a0M i r).2.s.length+i<=r.s.length
 |0,_=>⟨rfl,Nat.le_refl _⟩
 |i+1,h=>by
  cases hb:(a0M i r).2.bad
  ·rw [a8d hb] at h ⊢
   obtain ⟨h1,h2⟩:=a6V r i hb
   have h3:=(c01 h).2
   simp only at h3 ⊢
   refine ⟨by simp [h1],by omega⟩
  ·rw [a6U hb 1,hb] at h
   cases h
def b7B (r:RdV):OpV×RdV:=
 let a:=a1m r
 let b:=a1m a.2
 let c:=a1m b.2
 if c.1=2 then
  let d:=a1m c.2
  let e:=a1m d.2
  let f:=a1m e.2
  (⟨a.1,b.1,c.1,⟨0,0,0⟩,[],[],d.1,e.1,f.1⟩,⟨f.2.s,f.2.bad||!a0s ⟨a.1,b.1,c.1,⟨0,0,0⟩,[],[],d.1,e.1,f.1⟩⟩)
 else
  let d:=a2E c.2
  let e:=a2l d.2
  let f:=a1m e.2
  let g:=a0M f.1.toNat f.2
  (⟨a.1,b.1,c.1,d.1,e.1,g.1,0,0,0⟩,⟨g.2.s,g.2.bad||!a0s ⟨a.1,b.1,c.1,d.1,e.1,g.1,0,0,0⟩⟩)
theorem c6T (r:RdV):0<=(a1m r).1/\(a1m r).1<=268435456:=by
 obtain ⟨s,bad⟩:=r
 cases hn:takeN s with
 |none=>cases bad<;>simp [a1m,hn]
 |some q=>
  obtain ⟨n,t⟩:=q
  have:=(a1W hn).1
  cases bad<;>simp [a1m,hn]<;>omega
def TkI (H:Heap) (T:Nat) (id:Id) (m:Nat) (r6:RdV) (a1 a2 a3 x1 x2 x3:Int) (tx:List UInt8) (q:Nat) (st:St):Prop:=∃(i:Nat) (g:AC),i<=m/\q=m-i/\(a0M i r6).1.length=i/\i<=r6.s.length+1/\
 st.s 0=.c (.pt id 0 0)/\st.s 2=.c (.pt (T,2) 0 0)/\st.s 3=.c (.pt (T+1,3) 0 0)/\st.s 4=.c (.raw (.int .i64 m))/\st.s 5=.c (.raw (.int .i64 i))/\
 st.H id=.arr 220 2 false [a0W (a0M i r6).2]/\st.H (T,2)=.arr 53 11 false [a0F (.raw (.slice none 0 0)) ⟨0,0,0,⟨0,0,0⟩,[],[],0,0,0⟩]/\st.H (T+1,3)=.arr 53 11 false [a0F g ⟨a1,a2,a3,⟨x1,x2,x3⟩,tx,[],0,0,0⟩]/\
 ((g=.raw (.slice none 0 0)/\i=0)\/∃j,g=.so j 0 i/\H j=.a0h/\st.H j=.arr 50 3 false (a0a (a0M i r6).1))/\a0v [id] H st.H/\T+1<st.T/\a0D st.H st.T
def okT (r:RdV):Prop:=r.s.length<1000000
theorem d0h:a5r Tryz.prog 185 (mh1 220 2 (rdG okT b7B b4H)):=by
 refine a4z c8i Tryz.func185 e8Q e8R (by kernel_rfl) (by simp [b4H,a0F]) fun H T id r hid hf hrT=>?_
 obtain ⟨n1,n2,n3⟩:=hf.arr hid
 have hfu:∀k d,T<=k->H (k,d)=.a0h:=hf
 have hr:okR r:=Nat.lt_of_lt_of_le hrT (by decide)
 have c1:=a3w hr
 have c2:=a3w c1
 have c3:=a3w c2
 have w1:=a4C r
 have w2:=a4C (a1m r).2
 have w3:=a4C (a1m (a1m r).2).2
 have f7D:r.s.length<1000000:=hrT
 obtain ⟨s,bad⟩:=r
 rcases e1:a1m ⟨s,bad⟩ with ⟨a1,s1,b1⟩
 rw [e1] at c1 c2 c3 w1 w2 w3
 simp only at c1 c2 c3 w1 w2 w3
 rcases e2:a1m ⟨s1,b1⟩ with ⟨a2,s2,b2⟩
 rw [e2] at c2 c3 w2 w3
 simp only at c2 c3 w2 w3
 rcases e3:a1m ⟨s2,b2⟩ with ⟨a3,s3,b3⟩
 rw [e3] at c3 w3
 simp only at c3 w3 f7D
 cases k:decide (a3=2)
 rotate_left
 ·have k':=of_decide_eq_true k
  have c4:=a3w c3
  have c5:=a3w c4
  rcases e4:a1m ⟨s3,b3⟩ with ⟨a4,s4,b4⟩
  rw [e4] at c4 c5
  simp only at c4 c5
  rcases e5:a1m ⟨s4,b4⟩ with ⟨a5,s5,b5⟩
  rw [e5] at c5
  simp only at c5
  rcases e6:a1m ⟨s5,b5⟩ with ⟨a6,s6,b6⟩
  generalize ho:(⟨a1,a2,a3,⟨0,0,0⟩,[],[],a4,a5,a6⟩:OpV)=o
  have ho1:o.text.length<1000000:=by subst ho;simp
  have ho2:o.gone.length<4611686018427387904:=by subst ho;simp
  have e7:b7B ⟨s,bad⟩=(o,⟨s6,b6||!a0s o⟩):=by subst ho;simp [b7B,e1,e2,e3,e4,e5,e6,k']
  cases hmay:a0s o
  ·simp [d5q,hid,hfu,hr,c1,c2,c3,c4,c5,e1,e2,e3,e4,e5,e6,e7,a0W,b0s,b1m,b4H,n1,n2,k,ho,ho1,ho2,hmay]
   refine ⟨by subst ho;simp [a0F],?_⟩
   (repeat' (first|exact a0v.refl _ _|assumption|(refine a0v.set ?_ (by first|(right;simp;done)|(left;simp [hfu];done)|(left;exact hfu _ _ (by omega))|(left;assumption)))))
  ·simp [d5q,hid,hfu,hr,c1,c2,c3,c4,c5,e1,e2,e3,e4,e5,e6,e7,a0W,b0s,b1m,b4H,n1,n2,k,ho,ho1,ho2,hmay]
   refine ⟨by subst ho;simp [a0F],?_⟩
   (repeat' (first|exact a0v.refl _ _|assumption|(refine a0v.set ?_ (by first|(right;simp;done)|(left;simp [hfu];done)|(left;exact hfu _ _ (by omega))|(left;assumption)))))
 ·have k':¬a3=2:=of_decide_eq_false k
  have c4:=c4b c3
  have c5:=c4a c4
  have c6:=a3w c5
  have w4:=b5X ⟨s3,b3⟩
  have w5:=b5W (a2E ⟨s3,b3⟩).2
  have w6:=a4C (a2l (a2E ⟨s3,b3⟩).2).2
  rcases e4:a2E ⟨s3,b3⟩ with ⟨⟨x1,x2,x3⟩,s4,b4⟩
  rw [e4] at c4 c5 c6 w4 w5 w6
  simp only at c4 c5 c6 w4 w5 w6
  rcases e5:a2l ⟨s4,b4⟩ with ⟨tx,s5,b5⟩
  rw [e5] at c5 c6 w5 w6
  simp only at c5 c6 w5 w6
  obtain ⟨hn0,hn1⟩:=c6T ⟨s5,b5⟩
  rcases e6:a1m ⟨s5,b5⟩ with ⟨n,s6,b6⟩
  rw [e6] at c6 hn0 hn1 w6
  simp only at c6 hn0 hn1 w6
  obtain ⟨m,hm⟩:∃m,m=n.toNat:=⟨_,rfl⟩
  have hmi:n=(m:Int):=by omega
  have htx:tx.length<1000000:=by omega
  have hs6:s6.length<1000000:=by omega
  generalize ho:(⟨a1,a2,a3,⟨x1,x2,x3⟩,tx,(a0M m ⟨s6,b6⟩).1,0,0,0⟩:OpV)=o
  have e7:b7B ⟨s,bad⟩=(o,⟨(a0M m ⟨s6,b6⟩).2.s,(a0M m ⟨s6,b6⟩).2.bad||!a0s o⟩):=by simp [b7B,e1,e2,e3,e4,e5,e6,k',ho,<-hm]
  simp [d5q,hid,hfu,hr,c1,c2,c3,c4,c5,c6,e1,e2,e3,e4,e5,e6,e7,a0W,b0s,b1m,b4H,b6y,n1,n2,k,hmi]
  obtain ⟨r6,hr6⟩:∃r6:RdV,r6=⟨s6,b6⟩:=⟨_,rfl⟩
  have hl6:r6.s.length<1000000:=by rw [hr6];exact hs6
  rw [<-hr6] at ho e7 c6 ⊢
  refine a6y (TkI H T id m r6 a1 a2 a3 x1 x2 x3 tx) m ?_ ?_
  ·refine ⟨0,.raw (.slice none 0 0),by omega,by omega,?_⟩
   simp [n1,n2,hid,a0M,a0W,a0F,hr6]
   refine ⟨?_,?_⟩
   ·(repeat' (first|exact a0v.refl _ _|assumption|(refine a0v.set ?_ (by first|(right;simp;done)|(left;simp [hfu];done)|(left;exact hfu _ _ (by omega))|(left;assumption)))))
   ·repeat' (first|exact hf.mono (by first|omega|(simp<;>omega))|(refine a0D.set' ?_ (by first|omega|(simp<;>omega))))
  rintro q st ⟨i,g,hi,rfl,li,lr,q0,q2,q3,q4,q5,h1,h2,h3,hg,hsb,hT,hf'⟩ J hJ
  have b6w:∀k d,st.T<=k->st.H (k,d)=.a0h:=hf'
  have ci:okR (a0M i r6).2:=Nat.lt_of_le_of_lt (a8e r6 i) (Nat.lt_of_lt_of_le hl6 (by decide))
  have hbad:=fun h=>a6U (r:=r6) (i:=i) h (m-i)
  rw [show i+(m-i)=m by omega] at hbad
  have hgo:=a8d (r:=r6) (i:=i)
  have hlen:=a6V r6 i
  rcases er:(a0M i r6).2 with ⟨si,bi⟩
  rw [er] at h1 ci hbad hgo hlen
  simp only at hbad hgo hlen
  have more:(i<m/\bi=false)\/((i=m\/bi=true)/\a0M m r6=a0M i r6):=by
   by_cases hlt:i<m
   ·cases hb:bi
    ·exact .inl ⟨hlt,rfl⟩
    ·exact .inr ⟨.inr rfl,hbad hb⟩
   ·exact .inr ⟨.inl (by omega),by rw [show m=i by omega]⟩
  rcases more with ⟨hlt,rfl⟩|⟨hend,hme⟩
  ·have hlt':(i:Int)<m:=by omega
   have hw:IntKind.wrap .i64 ((i:Int)+1)=((i+1:Nat):Int):=by rw [a0d]<;>omega
   obtain ⟨li1,li2⟩:=hlen rfl
   have hgo:=hgo rfl
   rcases e8:a2E ⟨si,false⟩ with ⟨⟨y1,y2,y3⟩,s9,b9⟩
   rw [e8] at hgo
   have ht:a0a (a0M (i+1) r6).1=a0a (a0M i r6).1++[Enc.row (⟨y1,y2,y3⟩:a0B)]:=by rw [hgo,a4b]
   have f3r:(a0M (i+1) r6).1.length=i+1:=by rw [hgo];simp [li]
   obtain ⟨p1,p2,p3⟩:=hf'.arr h1
   obtain ⟨p4,p5,p6⟩:=hf'.arr h3
   have d1:=n2 (T+1) 3 (by omega)
   have d2:=n1 (T+1) 3 (by omega)
   rcases hg with ⟨rfl,rfl⟩|⟨j,rfl,hju,hj⟩
   ·simp [b9q,q0,q2,q3,q4,q5,h1,h2,h3,hlt,hlt',hw,b6w,ci,e8,b1m,a0W,a0F,p1,p2,p4,p5,d1,d2]
    refine ⟨by omega,m-1,by omega,hJ _ _ ⟨1,.so (st.T+1,50) 0 1,by omega,rfl,f3r,by omega,by simp [q0],by simp [q2],by simp [q3],by simp [q4],by simp;decide,?_,?_,?_,.inr ⟨(st.T+1,50),rfl,hfu _ _ (by omega),?_⟩,?_,by simp;omega,?_⟩⟩
    ·simp [p1,p2,d1,d2,a0W,hgo]
    ·simp [h2,n1,n2,hT,p1,p2]
    ·simp [a0F]
    ·show _=OK.arr _ _ _ (a0a (a0M (0+1) r6).1)
     rw [ht]
     simp [p1,p2,p4,p5,a0M]
    ·simp
     (repeat' (first|exact a0v.refl _ _|assumption|(refine a0v.set ?_ (by first|(right;simp;done)|(left;simp [hfu];done)|(left;exact hfu _ _ (by omega))|(left;assumption)))))
    ·simp
     have hf:=hf'
     repeat' (first|exact hf.mono (by first|omega|(simp<;>omega))|(refine a0D.set' ?_ (by first|omega|(simp<;>omega))))
   ·obtain ⟨p7,p8,p9⟩:=hf'.arr hj
    have ne:∀{x:Id} {e sz:Nat} {f:Bool} {rows:List (List AC)},st.H x=.arr e sz f rows->e≠50->(j=x)=False/\(x=j)=False:=by
     intro x e sz f rows hx he
     constructor
     ·simp;rintro rfl;rw [hx] at hj;simp at hj;exact he hj.1
     ·simp;rintro rfl;rw [hx] at hj;simp at hj;exact he hj.1
    obtain ⟨g1,g2⟩:=ne h1 (by decide)
    obtain ⟨g3,g4⟩:=ne h2 (by decide)
    obtain ⟨g5,g6⟩:=ne h3 (by decide)
    simp [b9q,q0,q2,q3,q4,q5,h1,h2,h3,hlt,hlt',hw,b6w,ci,e8,b1m,a0W,a0F,p1,p2,p4,p5,d1,d2,hj,p7,p8,g1,g2,g3,g4,g5,g6,li]
    refine ⟨⟨by omega,by omega⟩,by omega,m-(i+1),by omega,hJ _ _ ⟨i+1,.so (st.T+1,50) 0 (i+1),by omega,rfl,f3r,by omega,by simp [q0],by simp [q2],by simp [q3],by simp [q4],by simp,?_,?_,?_,.inr ⟨(st.T+1,50),rfl,hfu _ _ (by omega),?_⟩,?_,by simp;omega,?_⟩⟩
    ·simp [p1,p2,d1,d2,a0W,hgo,g1,g2]
    ·simp [h2,n1,n2,hT,p1,p2,g3,g4]
    ·simp [a0F]
    ·simp [p1,p2,p4,p5,ht]
    ·simp
     (repeat' (first|exact a0v.refl _ _|assumption|(refine a0v.set ?_ (by first|(right;simp;done)|(left;simp [hfu];done)|(left;exact hfu _ _ (by omega))|(left;assumption)))))
    ·simp
     have hf:=hf'
     repeat' (first|exact hf.mono (by first|omega|(simp<;>omega))|(refine a0D.set' ?_ (by first|omega|(simp<;>omega))))
  ·have hex:∀K:AEx->St->Prop,(∀st',st'.s 0=.c (.pt id 0 0)->st'.s 2=.c (.pt (T,2) 0 0)->st'.s 3=.c (.pt (T+1,3) 0 0)->st'.H=st.H->st.T<=st'.T->K (.exit 0) st')->a2K Tryz.prog FJ1 b9q K st:=by
    intro K hK
    refine c9z 0 (fun st'=>st'.s 0=.c (.pt id 0 0)/\st'.s 2=.c (.pt (T,2) 0 0)/\st'.s 3=.c (.pt (T+1,3) 0 0)/\st'.H=st.H/\st.T<=st'.T) ?_ fun st' ⟨a,b,c,d,e⟩=>hK st' a b c d e
    intro R' hR
    by_cases hlt:i<m
    ·have hb:bi=true:=by rcases hend with h|h;omega;exact h
     subst hb
     have hlt':(i:Int)<m:=by omega
     simp [q0,q2,q3,q4,q5,h1,a0W,hlt,hlt']
     exact hR _ ⟨by simp [q0],by simp [q2],by simp [q3],by simp,by simp⟩
    ·have hlt':¬(i:Int)<m:=by omega
     simp [q0,q2,q3,q4,q5,h1,a0W,hlt,hlt']
     exact hR _ ⟨by simp [q0],by simp [q2],by simp [q3],by simp,by simp⟩
   refine hex _ fun st' q0 q2 q3 hHe hTe=>?_
   have hfs:a0D st'.H st'.T:=by rw [hHe];exact hf'.mono hTe
   clear hex q4 q5
   rw [<-hHe] at h1 h2 h3 hg hsb
   have hTs:T+1<st'.T:=Nat.lt_of_lt_of_le hT hTe
   clear hHe hTe hf' b6w hT
   have b6w:∀k d,st'.T<=k->st'.H (k,d)=.a0h:=hfs
   have d3:((T,2)=id)=False:=n1 T 2 (Nat.le_refl _)
   have d4:(id=(T,2))=False:=n2 T 2 (Nat.le_refl _)
   obtain ⟨p1,p2,p3⟩:=hfs.arr h1
   have d1:=n2 (T+1) 3 (by omega)
   have d2:=n1 (T+1) 3 (by omega)
   rw [hme,er] at e7
   simp only at e7
   rw [hme] at ho ⊢
   have og:o.gone=(a0M i r6).1:=by rw [<-ho]
   have ho1:o.text.length<1000000:=by rw [<-ho];exact htx
   have ho2:o.gone.length<4611686018427387904:=by rw [og,li];omega
   rcases hg with ⟨rfl,rfl⟩|⟨j,rfl,hju,hj⟩
   ·have ho':(⟨a1,a2,a3,⟨x1,x2,x3⟩,tx,[],0,0,0⟩:OpV)=o:=by rw [<-ho];rfl
    have hx:(a0a o.gone)=[]:=by rw [og];rfl
    cases hmay:a0s o
    ·simp [er,q0,q2,q3,h1,h2,h3,b6w,a0W,a0F,p1,p2,d1,d2,d3,d4,ho',ho1,ho2,hx,hmay]
     refine ⟨by rw [<-ho];simp,?_⟩
     (repeat' (first|exact a0v.refl _ _|assumption|(refine a0v.set ?_ (by first|(right;simp;done)|(left;simp [hfu];done)|(left;exact hfu _ _ (by omega))|(left;assumption)))))
    ·simp [er,q0,q2,q3,h1,h2,h3,b6w,a0W,a0F,p1,p2,d1,d2,d3,d4,ho',ho1,ho2,hx,hmay]
     refine ⟨by rw [<-ho];simp,?_⟩
     (repeat' (first|exact a0v.refl _ _|assumption|(refine a0v.set ?_ (by first|(right;simp;done)|(left;simp [hfu];done)|(left;exact hfu _ _ (by omega))|(left;assumption)))))
   ·have ho':(⟨a1,a2,a3,⟨x1,x2,x3⟩,tx,(a0M i r6).1,0,0,0⟩:OpV)=o:=ho
    obtain ⟨p7,p8,p9⟩:=hfs.arr hj
    have ne:∀{x:Id} {e sz:Nat} {f:Bool} {rows:List (List AC)},st'.H x=.arr e sz f rows->e≠50->(j=x)=False/\(x=j)=False:=by
     intro x e sz f rows hx he
     constructor
     ·simp;rintro rfl;rw [hx] at hj;simp at hj;exact he hj.1
     ·simp;rintro rfl;rw [hx] at hj;simp at hj;exact he hj.1
    have htk:List.take i (a0a (a0M i r6).1)=a0a (a0M i r6).1:=List.take_of_length_le (by simp [a0a,li])
    obtain ⟨g1,g2⟩:=ne h1 (by decide)
    obtain ⟨g3,g4⟩:=ne h2 (by decide)
    obtain ⟨g5,g6⟩:=ne h3 (by decide)
    have f3s:i<4611686018427387904:=by omega
    cases hmay:a0s o
    ·simp [er,q0,q2,q3,h1,h2,h3,b6w,a0W,a0F,p1,p2,d1,d2,d3,d4,ho',ho1,ho2,f3s,hj,p7,p8,g1,g2,g3,g4,g5,g6,li,og,htk,hmay]
     refine ⟨by rw [<-ho];simp,fun a b h=>by rw [h];exact hju,?_⟩
     (repeat' (first|exact a0v.refl _ _|assumption|(refine a0v.set ?_ (by first|(right;simp;done)|(left;simp [hfu];done)|(left;exact hfu _ _ (by omega))|(left;assumption)))))
    ·simp [er,q0,q2,q3,h1,h2,h3,b6w,a0W,a0F,p1,p2,d1,d2,d3,d4,ho',ho1,ho2,f3s,hj,p7,p8,g1,g2,g3,g4,g5,g6,li,og,htk,hmay]
     refine ⟨by rw [<-ho];simp,fun a b h=>by rw [h];exact hju,?_⟩
     (repeat' (first|exact a0v.refl _ _|assumption|(refine a0v.set ?_ (by first|(right;simp;done)|(left;simp [hfu];done)|(left;exact hfu _ _ (by omega))|(left;assumption)))))
open Go
def Sim (a b:RdV):Prop:=(a.bad=true/\b.bad=true)\/(a.bad=false/\b=a)
def c6U {α:Type} (x y:α×RdV):Prop:=(x.2.bad=true/\y.2.bad=true)\/(x.2.bad=false/\y=x)
theorem c6U.sim {α:Type} {x y:α×RdV} (h:c6U x y):Sim x.2 y.2:=by
 rcases h with h|⟨h,rfl⟩
 ·exact .inl h
 ·exact .inr ⟨h,rfl⟩
theorem a1w {r:RdV} (h:r.bad=true):(rdNum r).2.bad=true:=by simp [rdNum,h]
theorem a6W {r:RdV} (h:r.bad=true):(a1d r).2.bad=true:=by simp [a1d,h]
theorem a6X {r:RdV} (h:r.bad=true):(a07 r).2.bad=true:=a1w (a1w (a1w h))
theorem a3k {r:RdV} (h:r.bad=true):(a1m r).2.bad=true:=by simp [a1m,h]
theorem a9W {r:RdV} (h:r.bad=true):(a2l r).2.bad=true:=by simp [a2l,h]
theorem b7C {r:RdV} (h:r.bad=true):(a2E r).2.bad=true:=a3k (a3k (a3k h))
theorem a6A {a b:RdV} (h:Sim a b):c6U (rdNum a) (a1m b):=by
 rcases h with ⟨h1,h2⟩|⟨h1,rfl⟩
 ·exact .inl ⟨a1w h1,a3k h2⟩
 ·obtain ⟨s,bad⟩:=b
  simp only at h1
  subst h1
  cases hn:takeN s with
  |none=>left;simp [rdNum,a1m,a1e,hn]
  |some q=>right;simp [rdNum,a1m,a1e,hn]
theorem d0i {a b:RdV} (h:Sim a b):c6U (a1d a) (a2l b):=by
 rcases h with ⟨h1,h2⟩|⟨h1,rfl⟩
 ·exact .inl ⟨a6W h1,a9W h2⟩
 ·obtain ⟨s,bad⟩:=b
  simp only at h1
  subst h1
  cases hn:decide ((a0L s).2.2=0)
  ·left;simp [a1d,a2l,hn]
  ·right;simp [a1d,a2l,hn]
theorem c4d {a b:RdV} (h:Sim a b):c6U (a07 a) (a2E b):=by
 have s1:=a6A h
 have s2:=a6A s1.sim
 have s3:=a6A s2.sim
 rcases s3 with ⟨x,y⟩|⟨x,e3⟩
 ·exact .inl ⟨x,y⟩
 ·right
  refine ⟨x,?_⟩
  rcases s2 with ⟨y,_⟩|⟨y,e2⟩
  ·have:=a1w y;rw [this] at x;cases x
  rcases s1 with ⟨z,_⟩|⟨z,e1⟩
  ·have:=a1w z;rw [this] at y;cases y
  rw [e2] at e3
  simp only [a2E,a07]
  rw [e2,e3,e1]
theorem b9L {a b:RdV} (h:Sim a b):∀n,c6U (a0O n a) (a0M n b)
 |0=>by
  rcases h with ⟨h1,h2⟩|⟨h1,rfl⟩
  ·exact .inl ⟨h1,h2⟩
  ·exact .inr ⟨h1,rfl⟩
 |n+1=>by
  rcases b9L h n with ⟨h1,h2⟩|⟨h1,h2⟩
  ·left
   refine ⟨a6X h1,?_⟩
   rw [a0M,if_pos h2]
   exact h2
  ·have hb:(a0M n b).2.bad=false:=by rw [h2];exact h1
   have h3:c6U (a07 (a0O n a).2) (a2E (a0O n a).2):=c4d (.inr ⟨h1,rfl⟩)
   rw [show a0O (n+1) a=((a0O n a).1++[(a07 (a0O n a).2).1],(a07 (a0O n a).2).2) from rfl,a8d hb,h2]
   rcases h3 with ⟨h4,h5⟩|⟨h4,h5⟩
   ·exact .inl ⟨h4,h5⟩
   ·right
    rw [h5]
    exact ⟨h4,rfl⟩
theorem a5V {r:RdV} (h:r.bad=true):∀n,(a0O n r).2.bad=true
 |0=>h
 |n+1=>a6X (a5V h n)
theorem a4D {r:RdV} (h:r.bad=true):∀n,(a0M n r).2.bad=true
 |0=>h
 |n+1=>by rw [a0M,if_pos (a4D h n)];exact a4D h n
theorem b7D {o:OpV} (h:a0s o=true):o.gone.length<=200:=by
 unfold a0s at h
 simp only [Bool.and_eq_true] at h
 obtain ⟨_,h⟩:=h
 split at h
 ·simp only [a3Q,a38,Bool.and_eq_true,decide_eq_true_eq] at h
  exact h.1.1.1.2.2
 ·simp only [a1H,Bool.and_eq_true,decide_eq_true_eq] at h
  rw [h.2.2];simp
theorem f0T {a b:RdV} (h:Sim a b):c6U (a7M a) (b7B b):=by
 have s1:=a6A h
 have s2:=a6A s1.sim
 have s3:=a6A s2.sim
 rcases s3 with ⟨x,y⟩|⟨x,e3⟩
 ·left
  have hx:(a7M a).2.bad=true:=by
   simp only [a7M]
   split
   ·have:=a1w (a1w (a1w x))
    simp [this]
   ·have:=a5V (a1w (a6W (a6X x))) (min (rdNum (a1d (a07 (rdNum (rdNum (rdNum a).2).2).2).2).2).1.toNat 200)
    simp [this]
  have hy:(b7B b).2.bad=true:=by
   simp only [b7B]
   split
   ·have:=a3k (a3k (a3k y))
    simp [this]
   ·have:=a4D (a3k (a9W (b7C y))) (a1m (a2l (a2E (a1m (a1m (a1m b).2).2).2).2).2).1.toNat
    simp [this]
  exact ⟨hx,hy⟩
 rcases s2 with ⟨y,_⟩|⟨y,e2⟩
 ·have:=a1w y;rw [this] at x;cases x
 rcases s1 with ⟨z,_⟩|⟨z,e1⟩
 ·have:=a1w z;rw [this] at y;cases y
 have e2':a1m (rdNum a).2=rdNum (rdNum a).2:=by rw [e1] at e2;exact e2
 have e3':a1m (rdNum (rdNum a).2).2=rdNum (rdNum (rdNum a).2).2:=by rw [e1,e2'] at e3;exact e3
 have h3:Sim (rdNum (rdNum (rdNum a).2).2).2 (rdNum (rdNum (rdNum a).2).2).2:=.inr ⟨x,rfl⟩
 unfold c6U
 simp only [a7M,b7B,e1,e2',e3']
 generalize hA:(rdNum a).1=A1
 generalize hB:(rdNum (rdNum a).2).1=B1
 generalize hC:rdNum (rdNum (rdNum a).2).2=C at h3
 by_cases hk:C.1=2
 ·simp only [if_pos hk]
  have s4:=a6A h3
  have s5:=a6A s4.sim
  have s6:=a6A s5.sim
  rcases s6 with ⟨u,v⟩|⟨u,e6⟩
  ·left;simp [u,v]
  rcases s5 with ⟨v,_⟩|⟨v,e5⟩
  ·have:=a1w v;rw [this] at u;cases u
  rcases s4 with ⟨w,_⟩|⟨w,e4⟩
  ·have:=a1w w;rw [this] at v;cases v
  have e5':a1m (rdNum C.2).2=rdNum (rdNum C.2).2:=by rw [e4] at e5;exact e5
  have e6':a1m (rdNum (rdNum C.2).2).2=rdNum (rdNum (rdNum C.2).2).2:=by rw [e4,e5'] at e6;exact e6
  simp only [e4,e5',e6']
  rw [u]
  cases hm:a0s ⟨A1,B1,C.1,⟨0,0,0⟩,[],[],(rdNum C.2).1,(rdNum (rdNum C.2).2).1,(rdNum (rdNum (rdNum C.2).2).2).1⟩
  ·left;simp
  ·right;simp
 ·simp only [if_neg hk]
  have s4:=c4d h3
  have s5:=d0i s4.sim
  have s6:=a6A s5.sim
  rcases s6 with ⟨u,v⟩|⟨u,e6⟩
  ·left
   rw [a5V u,a4D v]
   simp
  rcases s5 with ⟨v,_⟩|⟨v,e5⟩
  ·have:=a1w v;rw [this] at u;cases u
  rcases s4 with ⟨w,_⟩|⟨w,e4⟩
  ·have:=a6W w;rw [this] at v;cases v
  have e5':a2l (a07 C.2).2=a1d (a07 C.2).2:=by rw [e4] at e5;exact e5
  have e6':a1m (a1d (a07 C.2).2).2=rdNum (a1d (a07 C.2).2).2:=by rw [e4,e5'] at e6;exact e6
  simp only [e4,e5',e6']
  have hn:=b2Z (a1d (a07 C.2).2).2
  generalize hF:rdNum (a1d (a07 C.2).2).2=F at u hn
  have h6:Sim F.2 F.2:=.inr ⟨u,rfl⟩
  by_cases f3t:200<F.1
  ·left
   refine ⟨by simp [f3t],?_⟩
   cases hb:(a0M F.1.toNat F.2).2.bad
   ·have hl:=(a6V F.2 F.1.toNat hb).1
    cases hm:a0s ⟨A1,B1,C.1,(a07 C.2).1,(a1d (a07 C.2).2).1,(a0M F.1.toNat F.2).1,0,0,0⟩
    ·simp
    ·have:=b7D hm
     simp only at this
     omega
   ·simp
  ·rw [show min F.1.toNat 200=F.1.toNat by omega]
   rcases b9L h6 F.1.toNat with ⟨v1,v2⟩|⟨v1,v2⟩
   ·left;simp [v1,v2]
   ·rw [v2,v1]
    simp only [f3t,decide_false,Bool.false_or]
    cases hm:a0s ⟨A1,B1,C.1,(a07 C.2).1,(a1d (a07 C.2).2).1,(a0O F.1.toNat F.2).1,0,0,0⟩
    ·left;simp
    ·right;simp
theorem c4e (s:List UInt8):(if (b7B ⟨s,false⟩).2.bad=true then (a0V,[],(7:Int)) else ((b7B ⟨s,false⟩).1,(b7B ⟨s,false⟩).2.s,0))=a01 s:=by
 unfold a01
 rcases f0T (a:=⟨s,false⟩) (b:=⟨s,false⟩) (.inr ⟨rfl,rfl⟩) with ⟨h1,h2⟩|⟨h1,h2⟩
 ·rw [if_pos h1,if_pos h2]
 ·rw [h2]
end Go.AE
