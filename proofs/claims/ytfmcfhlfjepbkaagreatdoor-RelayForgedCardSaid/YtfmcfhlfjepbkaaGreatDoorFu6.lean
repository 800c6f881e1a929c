/- The page's reader and the program's tell the same ops, or both find that there is none. -/
import Derived.Test.YtfmcfhlfjepbkaaGreatDoorFu4
import Derived.Test.YtfmcfhlfjepbkaaGreatDoorFu5
import Derived.Shelf.Strings.OnBuilder
import Derived.KernelRfl
import Derived.Test.YtfmcfhlfjepbkaaGreatDoorProg
import Derived.Shelf.Unicode.DecodeAny
import Derived.Lib.RuneCountTail
import Derived.Shelf.Unicode.DecodeLastEight
set_option linter.unusedVariables false
set_option linter.unusedSimpArgs false
set_option maxHeartbeats 4000000
set_option maxRecDepth 100000
namespace Go.AE
open Go Go.Proofs
def a8Y (n:Int):a0k×Int:=if 1<=n/\n<=400 then (⟨List.replicate n.toNat blank,[]⟩,0) else (⟨[],[]⟩,1)
def a9i (d:a0k) (at_:Int) (s:List UInt8):a0k×Int:=
 if a1N d=false\/s.length≠32 then (⟨[],[]⟩,1) else if at_<0\/(d.safe.length:Int)<=at_ then (⟨[],[]⟩,3) else if 400<=d.wait.length then (⟨[],[]⟩,6)
 else (⟨d.safe,d.wait++[⟨at_,s⟩]⟩,0)
def a3Y (d:a0k) (at_:Int) (s:List UInt8):a0k×Int:=
 if at_<0\/(d.safe.length:Int)<=at_ then (⟨[],[]⟩,3) else if 400<=d.wait.length then (⟨[],[]⟩,6)
 else (⟨d.safe,d.wait++[⟨at_,s⟩]⟩,0)
def a3E (d:a0k):a0k×Int:=a7E d (List.replicate d.wait.length 1)
theorem b1F (n:Int):PEv Tryz.prog 36 [.c (.raw (.int .i64 n))] (a1j (a8Y n)):=by
 refine a0f mixed a7D Tryz.func36 sl36 f6r (by kernel_rfl) (by simp [a1j,a0y]) (by simp) ?_
 unfold a8Y
 by_cases h:1<=n/\n<=400
 ·rw [if_pos h]
  have h1:¬n<1:=by omega
  have h2:¬400<n:=by omega
  simp [s36,h1,h2]
  refine a0R a8l (by simp) (by simp) (by simp) ?_
  simp
  refine a0R (d04 blank n (by omega) (by omega)) (by simp;rfl) (by simp) (by simp) ?_
  simp [a1j,a0y]
 ·rw [if_neg h]
  by_cases h1:n<1
  ·simp [s36,h1,a1j,a0y]
  ·have h2:400<n:=by omega
   simp [s36,h1,h2,a1j,a0y]
theorem c4w {F:CT} (n:Nat) (hn1:n<=1000) {Q:AEx->St->Prop} {st:St} (v b:Id) (hF:a0c F 38=a0c F4 38) (k0:st.s 0=.c (.raw (.int .i64 n))) (k3:st.s 3=.c (.pt v 0 0)) (k2:st.s 2=.c (.pt b 0 0))
  (k4:st.s 4=.c (.raw (.int .i64 0))) (kv:st.H v=.arr 25 2 false [[.raw (.slice none 0 0),.raw (.slice none 0 0)]]) (hf:a0E st.H st.T)
  (hq:∀st' c,st'.s 3=.c (.pt v 0 0)->st'.s 2=.c (.pt b 0 0)->st'.H v=.arr 25 2 false [[c,.raw (.slice none 0 0)]]->a9h st'.H 9 1 st.T c (List.replicate n blank)->
   a3f [v] st.H st.T st'.H st'.T->Q (.exit 0) st') :
  a2S Tryz.prog F (.loop c22) Q st:=by
 refine a1E (fun m st'=>∃j:Nat,j<=n/\m=n-j/\st'.s 0=.c (.raw (.int .i64 n))/\st'.s 3=.c (.pt v 0 0)/\st'.s 2=.c (.pt b 0 0)/\st'.s 4=.c (.raw (.int .i64 j))/\a3f [v] st.H st.T st'.H st'.T/\
  ∃c,st'.H v=.arr 25 2 false [[c,.raw (.slice none 0 0)]]/\a9h st'.H 9 1 st.T c (List.replicate j blank)) n
  ⟨0,by simp [k0,k3,k2,k4,kv,a3f.refl hf];exact a9h.nil⟩ ?_
 rintro m st' ⟨j,hj,rfl,k0,k3,k2,k4,he,c,kv,hown⟩
 have hf':=he.fresh
 have hT:=he.2.2.1
 have hfu:∀k d,st'.T<=k->st'.H (k,d)=.a0g:=hf'
 obtain ⟨f4,f5,f6⟩:=hf'.arr kv
 by_cases hlt:j<n
 ·have e2:IntKind.wrap .i64 ((j:Int)+1)=((j+1:Nat):Int):=by rw [a0d]<;>omega
  have hrep:a0a (List.replicate j blank)++[[AC.str blank]]=a0a (List.replicate (j+1) blank):=by
   rw [show [[AC.str blank]]=a0a [blank] from rfl,<-a1l,List.replicate_succ']
  rcases hown with ⟨rfl,hl⟩|⟨id,rfl,hid,kid⟩
  ·obtain rfl:j=0:=by simpa using hl
   simp [c22,k0,k3,k2,k4,kv,hlt,e2,hF,hfu,f4,f5]
   refine ⟨n-1,by omega,1,by omega,rfl,rfl,?_,a9h.so (by simp) (by simp;omega) (by simp [f4,a0a])⟩
   repeat' (first|exact he.tick (by first|omega|(simp<;>omega))|(refine a3f.new ?_ (by first|omega|(simp<;>omega)) (by first|omega|(simp<;>omega)))|(refine a3f.set ?_ (by simp) (by first|omega|(simp<;>omega))))
  ·obtain ⟨f7,f8,f9⟩:=hf'.arr kid
   have hne:(id=v)=False:=by
    simp only [eq_iff_iff,iff_false];intro e;rw [e,kv] at kid;cases kid
   have hne':(v=id)=False:=by
    simp only [eq_iff_iff,iff_false];intro e;rw [<-e,kv] at kid;cases kid
   simp [c22,k0,k3,k2,k4,kv,kid,hlt,e2,hF,hfu,f4,f5,f7,f8,hne,hne']
   refine ⟨by omega,n-(j+1),by omega,j+1,by omega,rfl,rfl,?_,a9h.so (by simp) (by simp;omega) (by simp [f4,hrep])⟩
   repeat' (first|exact he.tick (by first|omega|(simp<;>omega))|(refine a3f.new ?_ (by first|omega|(simp<;>omega)) (by first|omega|(simp<;>omega)))|(refine a3f.set ?_ (by simp) (by first|omega|(simp<;>omega))))
 ·have:j=n:=by omega
  subst this
  simp [c22,k0,k3,k2,k4,hlt]
  rcases hown with ⟨rfl,hl⟩|⟨id,rfl,hid,kid⟩
  ·exact hq _ _ (by simp [k3]) (by simp [k2]) (by simpa using kv) (.inl ⟨rfl,hl⟩) (he.tick (by simp))
  ·exact hq _ _ (by simp [k3]) (by simp [k2]) (by simpa using kv) (.inr ⟨id,rfl,hid,by simpa using kid⟩) (he.tick (by simp))
theorem c4x (n:Nat) (hn:n<=1000):PEv Tryz.prog 67 [.c (.raw (.int .i64 n))] (.g (a0y ⟨List.replicate n blank,[]⟩)):=by
 refine a0f mixed a7D Tryz.func67 f6K f6L (by kernel_rfl) (by simp [a0y]) (by simp) ?_
 simp [s67]
 refine c4w n hn (1,3) (0,2) rfl (by simp) (by simp) (by simp) (by simp) (by simp) (by (simp;repeat' (first|exact a1n.mono (Nat.zero_le _)|(refine a0E.set' ?_ (by simp))))) ?_
 intro st' c k3 k2 kv hown he
 have k2':=he.1 (0,2)
 simp at k2'
 rcases hown with ⟨rfl,hl⟩|⟨id,rfl,hid,kid⟩
 ·obtain rfl:n=0:=by simpa using hl
  simp [k3,k2,kv,k2',a0y]
 ·have hne:id≠(0,2):=by rintro rfl;simp at hid
  simp [k3,k2,kv,k2',kid,a0y,hne]
theorem b1G (n:Int) (h:0<=n/\n<=1000):PEv Tryz.prog 67 [.c (.raw (.int .i64 n))] (.g (a0y ⟨List.replicate n.toNat blank,[]⟩)):=by
 obtain ⟨k,rfl⟩:∃k:Nat,n=(k:Int):=⟨n.toNat,by omega⟩
 exact c4x k (by omega)
theorem c4y (d:a0k) (at_:Int) (s:List UInt8) (h1:d.safe.length<1000000) (h2:d.wait.length<1000000) :
  PEv Tryz.prog 136 [Arg.enc d,.c (.raw (.int .i64 at_)),.c (.str s)] (a1j (a3Y d at_ s)):=by
 refine a0f mixed a7D Tryz.func136 e6O e6P (by kernel_rfl) (by simp [a1j,a0y]) (by simp) ?_
 have e3:IntKind.wrap .i64 ((d.safe.length:Int)-1)=(d.safe.length:Int)-1:=by rw [a0d]<;>omega
 unfold a3Y
 by_cases g1:at_<0\/(d.safe.length:Int)<=at_
 ·rw [if_pos g1]
  have g2:(decide (0<=at_)&&decide (at_<=(d.safe.length:Int)-1))=false:=by simp;omega
  simp [d5r,e3,g2,a1j,a0y]
 ·rw [if_neg g1]
  have g2:(decide (0<=at_)&&decide (at_<=(d.safe.length:Int)-1))=true:=by simp;omega
  by_cases g3:400<=d.wait.length
  ·have g3':(400:Int)<=d.wait.length:=by omega
   rw [if_pos g3]
   simp [d5r,e3,g2,g3',a1j,a0y]
  ·have g3':¬(400:Int)<=d.wait.length:=by omega
   rw [if_neg g3]
   simp [d5r,e3,g2,g3',h1,h2,a1j,a0y]
   exact ⟨⟨by omega,by omega⟩,by rw [a1l];rfl⟩
theorem b1H (d:a0k) (at_:Int) (s:List UInt8) (h1:d.safe.length<1000000) (h2:d.wait.length<1000000) :
  PEv Tryz.prog 37 [Arg.enc d,.c (.raw (.int .i64 at_)),.c (.str s)] (a1j (a9i d at_ s)):=by
 refine a0f mixed a7D Tryz.func37 f6s f6t (by kernel_rfl) (by simp [a1j,a0y]) (by simp) ?_
 unfold a9i
 by_cases hm:a1N d=true
 ·by_cases hs:s.length=32
  ·rw [if_neg (by simp [hm,hs])]
   by_cases g1:at_<0
   ·rw [if_pos (.inl g1)]
    simp [s37,h1,h2,hm,hs,g1,a1j,a0y]
   ·by_cases g2:(d.safe.length:Int)<=at_
    ·rw [if_pos (.inr g2)]
     simp [s37,h1,h2,hm,hs,g1,g2,a1j,a0y]
    ·rw [if_neg (by omega)]
     by_cases g3:400<=d.wait.length
     ·have g3':(400:Int)<=d.wait.length:=by omega
      rw [if_pos g3]
      simp [s37,h1,h2,hm,hs,g1,g2,g3',a1j,a0y]
     ·have g3':¬(400:Int)<=d.wait.length:=by omega
      rw [if_neg g3]
      simp [s37,h1,h2,hm,hs,g1,g2,g3',a1j,a0y]
      exact ⟨⟨by omega,by omega⟩,by rw [a1l];rfl⟩
  ·rw [if_pos (.inr hs)]
   simp [s37,h1,h2,hm,hs,a1j,a0y]
 ·rw [if_pos (.inl (by simpa using hm))]
  simp [s37,h1,h2,hm,a1j,a0y]
theorem a96 (d:a0k) (h1:d.safe.length<1000000) (h2:d.wait.length<1000000):PEv Tryz.prog 59 [Arg.enc d] (a1j (a3E d)):=by
 refine a0f mixed a7D Tryz.func59 f6E f6F (by kernel_rfl) (by simp [a1j,a0y]) (by simp) ?_
 simp [s59]
 refine a0R (d02 1 d.wait.length (by omega) (by omega)) (by simp;rfl) (by simp) (by simp) ?_
 simp
 refine a0R (a8X d (List.replicate d.wait.length 1) h1 h2 (by simp;omega)) (by simp;rw [List.take_of_length_le (by simp)]) (by simp [a1j,a0y]) (by simp [a1j,a0y]) ?_
 simp [a1j,a0y,a3E]
open Go Go.Proofs
structure e3Q where
 do_:Int
 n:Int
 s:List UInt8
 k:List Int
instance f3d:Enc e3Q where
 w:=4
 row a:=[.raw (.int .i64 a.do_),.raw (.int .i64 a.n),.str a.s,.sl .old false (a0a a.k)]
 dec|[.raw (.int .i64 d),.raw (.int .i64 n),.str s,.sl .old false k]=>(a4A k).map fun k=>⟨d,n,s,k⟩|_=>none
 a36 a:=by simp
 a3O {r a} h:=by
  split at h
  ·rw [Option.map_eq_some_iff] at h
   obtain ⟨k,hk,rfl⟩:=h
   rw [a0O hk]
  ·cases h
 len _:=rfl
 old a c hc:=by
  simp at hc
  rcases hc with rfl|rfl|rfl|rfl
  ·exact .raw _
  ·exact .raw _
  ·exact .str _
  ·rw [a6i];simp
 ret a c hc:=by
  simp at hc
  rcases hc with rfl|rfl|rfl|rfl
  ·exact .raw _
  ·exact .raw _
  ·exact .str _
  ·rw [a4G];simp
@[simp] theorem e3R (a:e3Q):Enc.row a=[AC.raw (.int .i64 a.do_),AC.raw (.int .i64 a.n),AC.str a.s,AC.sl .old false (a0a a.k)]:=rfl
@[simp] theorem f5E:Enc.w e3Q=4:=rfl
def d7Z:List AV->Option (Prop×AV):=t1 (fun _=>True) fun n:Int=>a1j (a8Y n)
def c4z:List AV->Option (Prop×AV):=t3 (fun (d:a0k) _ _=>d.safe.length<1000000/\d.wait.length<1000000) fun (d:a0k) (n:Int) (s:List UInt8)=>a1j (a9i d n s)
@[simp] theorem f3e {l:List AV}:c4z l=(t3 (fun (d:a0k) _ _=>d.safe.length<1000000/\d.wait.length<1000000) fun (d:a0k) (n:Int) (s:List UInt8)=>a1j (a9i d n s)) l:=(rfl)
def c4A:List AV->Option (Prop×AV):=t1 (fun d:a0k=>d.safe.length<1000000/\d.wait.length<1000000) fun d:a0k=>a1j (a3E d)
@[simp] theorem f3f {l:List AV}:c4A l=(t1 (fun d:a0k=>d.safe.length<1000000/\d.wait.length<1000000) fun d:a0k=>a1j (a3E d)) l:=(rfl)
def d8a:List AV->Option (Prop×AV):=t2 (fun (d:a0k) (k:List Int)=>d.safe.length<1000000/\d.wait.length<1000000/\k.length<281474976710656) fun (d:a0k) (k:List Int)=>a1j (a7E d k)
def d8b:List AV->Option (Prop×AV):=t2 (fun (d:a0k) (k:List Int)=>a1N d=true/\k.length<281474976710656) fun (d:a0k) (k:List Int)=>.g (a0y ⟨a1O k 0 d.safe d.wait,[]⟩)
def c4B:List AV->Option (Prop×AV):=t1 (fun d:a0k=>a1N d=true) fun d:a0k=>.g (a0y ⟨a39 d.safe d.wait,[]⟩)
@[simp] theorem f3g {l:List AV}:c4B l=(t1 (fun d:a0k=>a1N d=true) fun d:a0k=>.g (a0y ⟨a39 d.safe d.wait,[]⟩)) l:=(rfl)
def d8c:List AV->Option (Prop×AV):=t1 (fun n:Int=>0<=n/\n<=1000) fun n:Int=>.g (a0y ⟨List.replicate n.toNat blank,[]⟩)
def b7P:List AV->Option (Prop×AV):=t3 (fun (d:a0k) _ _=>d.safe.length<1000000/\d.wait.length<1000000) fun (d:a0k) (n:Int) (s:List UInt8)=>a1j (a3Y d n s)
@[simp] theorem e3S {l:List AV}:b7P l=(t3 (fun (d:a0k) _ _=>d.safe.length<1000000/\d.wait.length<1000000) fun (d:a0k) (n:Int) (s:List UInt8)=>a1j (a3Y d n s)) l:=(rfl)
def F5:CT:=(36,.pu d7Z)::(37,.pu c4z)::(59,.pu c4A)::(40,.pu d8a)::(93,.pu d8b)::(71,.pu c4B)::(67,.pu d8c)::(136,.pu b7P)::F4
theorem f3h:a1k Tryz.prog F5:=⟨a0n fun n _=>b1F n,
 a4L fun d n s h=>b1H d n s h.1 h.2,
 a0n fun d h=>a96 d h.1 h.2,
 a0P fun d k h=>a8X d k h.1 h.2.1 h.2.2,
 a0P fun d k h=>b7O d k h.1 h.2,
 a0n fun d h=>b1E d h,
 a0n fun n h=>b1G n h,
 a4L fun d n s h=>c4y d n s h.1 h.2,a7D⟩
@[simp] theorem e3T:a0c F5 37=some (.pu c4z):=(rfl)
@[simp] theorem e3U:a0c F5 59=some (.pu c4A):=(rfl)
@[simp] theorem e3V:a0c F5 71=some (.pu c4B):=(rfl)
@[simp] theorem d8d:a0c F5 136=some (.pu b7P):=(rfl)
@[simp] theorem f3i {n:Nat} (h:(n==36||n==37||n==59||n==40||n==93||n==71||n==67||n==136)=false):a0c F5 n=a0c F4 n:=by
 simp only [Bool.or_eq_false_iff,beq_eq_false_iff_ne,ne_eq] at h
 simp [F5,a0c,h]
@[simp] theorem c58 {α:Type} [Enc α] {l:List α} {n:Nat} (h:l.length<=n):List.take n (a0a l)=a0a l:=by rw [List.take_of_length_le (by simpa using h)]
@[simp] theorem d8e (a:List (List UInt8)):Arg.dec (.g [.sl .brw false (a0a a),.sl .brw false []])=some (a0k.mk a []):=c7b a []
open Go Go.Proofs Go.Shelf
def lays156_ren:Go.Shelf.Ren:=⟨fun|156=>203|165=>180|166=>181|169=>183|240=>207|241=>208|276=>223|277=>224|n=>n,fun|31=>22|9=>9|3=>3|4=>4|0=>0|20=>20|72=>210|76=>214|70=>208|37=>65|75=>213|127=>233|164=>247|5=>5|80=>70|n=>n,fun  |n=>n⟩
theorem lays156:Lays.n156 Tryz.prog lays156_ren where
 mixed:=by kernel_rfl
 f156:=Tryz.func203.trans (congrArg some (by kernel_rfl))
 f165:=Tryz.func180.trans (congrArg some (by kernel_rfl))
 f166:=Tryz.func181.trans (congrArg some (by kernel_rfl))
 f169:=Tryz.func183.trans (congrArg some (by kernel_rfl))
 f240:=Tryz.func207.trans (congrArg some (by kernel_rfl))
 f241:=Tryz.func208.trans (congrArg some (by kernel_rfl))
 f276:=Tryz.func223.trans (congrArg some (by kernel_rfl))
 f277:=Tryz.func224.trans (congrArg some (by kernel_rfl))
 t0:=Tryz.underlying0
 a0:=Tryz.isAgg0
 z0:=Tryz.sizeOf0
 v0:=Tryz.zeroValue0
 t3:=Tryz.underlying3
 a3:=Tryz.isAgg3
 z3:=Tryz.sizeOf3
 v3:=Tryz.zeroValue3
 t4:=Tryz.underlying4
 a4:=Tryz.isAgg4
 z4:=Tryz.sizeOf4
 v4:=Tryz.zeroValue4
 t9:=Tryz.underlying9
 a9:=Tryz.isAgg9
 z9:=Tryz.sizeOf9
 v9:=Tryz.zeroValue9
 t20:=Tryz.underlying20
 a20:=Tryz.isAgg20
 z20:=Tryz.sizeOf20
 v20:=Tryz.zeroValue20
 t31:=Tryz.underlying22
 a31:=Tryz.isAgg22
 z31:=Tryz.sizeOf22
 v31:=Tryz.zeroValue22
 t37:=Tryz.underlying65
 a37:=Tryz.isAgg65
 z37:=Tryz.sizeOf65
 v37:=Tryz.zeroValue65
 t70:=Tryz.underlying208
 a70:=Tryz.isAgg208
 z70:=Tryz.sizeOf208
 v70:=Tryz.zeroValue208
 t72:=Tryz.underlying210
 a72:=Tryz.isAgg210
 z72:=Tryz.sizeOf210
 v72:=Tryz.zeroValue210
 t75:=Tryz.underlying213
 a75:=Tryz.isAgg213
 z75:=Tryz.sizeOf213
 v75:=Tryz.zeroValue213
 t76:=Tryz.underlying214
 a76:=Tryz.isAgg214
 z76:=Tryz.sizeOf214
 v76:=Tryz.zeroValue214
 t127:=Tryz.underlying233
 a127:=Tryz.isAgg233
 z127:=Tryz.sizeOf233
 v127:=Tryz.zeroValue233
 t164:=Tryz.underlying247
 a164:=Tryz.isAgg247
 z164:=Tryz.sizeOf247
 v164:=Tryz.zeroValue247
theorem b3o:Builder.Extra Tryz.prog lays156_ren where
 sizeBuilder:=by kernel_rfl
 liesBuilder:=by kernel_rfl
 t5:=Tryz.underlying5
 a5:=Tryz.isAgg5
 z5:=Tryz.sizeOf5
 v5:=Tryz.zeroValue5
 infoByte:=by kernel_rfl
 cellsByte:=by kernel_rfl
 sizeByte:=by kernel_rfl
 neB5:=by decide
open Go Go.Proofs
theorem d05 (l:List (List UInt8)) (h1:l.length<1000000) (h2:l.flatten.length<=140737488355328):PEv Tryz.prog 203 [Arg.enc l,.c (.str [])] (.c (.str l.flatten)):=by
 have hj:Lib.join l []=l.flatten:=by
  unfold Lib.join
  induction l with
  |nil=>rfl
  |cons x r ih=>
   cases r with
   |nil=>simp [List.intercalate]
   |cons y r=>
    have:=ih (by simp at h1 ⊢;omega) (by simp at h2 ⊢;omega)
    simp [List.intercalate,List.intersperse] at this ⊢
    rw [this]
 refine b7B (by kernel_rfl) (by simp) fun w hI F vs hs hr=>?_
 have h0:=a0D (hr 0 _ rfl)
 have h01:=a14 (a0D (hr 1 _ rfl))
 generalize hv:vs.getD 0 undef=v at h0
 rw [vs2 hs hv h01]
 generalize hx:a0a l=xs at h0
 cases h0 with
 |a08 _ _ _ hn=>
  cases l with
  |cons=>cases hx
  |nil=>
   rcases hn with rfl|⟨a,rfl⟩
   ·exact (Any.strings_Join_none lays156 b3o none 0 ⟨#[]⟩ w).mono fun e w' ⟨he,hw⟩=>⟨he,hw▸RowKit.Below.refl _ _⟩
   ·exact (Any.strings_Join_none lays156 b3o (some a) 0 ⟨#[]⟩ w).mono fun e w' ⟨he,hw⟩=>⟨he,hw▸RowKit.Below.refl _ _⟩
 |sl _ _ _ b o cap sz us hb hF hcap hcl hrow hcell hone hrel=>
  subst hx
  have hlen:(a0a l).length=l.length:=by simp [a0a]
  have:=Any.strings_Join lays156 b3o b o cap (l.map fun s=>(⟨s.toArray⟩:ByteArray)) ⟨#[]⟩ w (fun j x hjx=>?_) hb (by simp;omega) (by simp;rw [<-hlen];exact hcap) (by simp [Function.comp_def,hj];simpa using h2)
  ·simp [Function.comp_def,hj] at this
   rw [hlen]
   exact this
  ·simp at hjx
   obtain ⟨s,hs',rfl⟩:=hjx
   have hri:(a0a l)[j]?=some [AC.str s]:=by simp [a0a,hs']
   have hsz:1=sz:=hrow j _ hri
   subst hsz
   have hjl:j<l.length:=(List.getElem?_eq_some_iff.1 hs').1
   rw [hcell j (by rw [hlen];omega)]
   have:=a14 (hrel j 0 _ _ hri rfl)
   simp at this
   rw [this]
def a8m (s p:List UInt8):Bool:=Lib.hasPrefix s p
theorem b6f (s p:List UInt8):PEv Tryz.prog 179 [.c (.str s),.c (.str p)] (.c (.raw (.bool (a8m s p)))):=by
 refine b7C (by kernel_rfl) (by simp) fun w hI F vs hs hr=>?_
 have h0:=a14 (a0D (hr 0 _ rfl))
 have h1:=a14 (a0D (hr 1 _ rfl))
 rw [vs2 hs h0 h1]
 exact (Any.strings_HasPrefix {lays105 with} ⟨s.toArray⟩ ⟨p.toArray⟩ w).mono fun e w' ⟨he,hw⟩=>⟨he,hw▸RowKit.Below.refl _ _⟩
open Go Go.Proofs
theorem c1C (s:List UInt8) (n:Int) (h0:0<=n/\n<=1000000) (h:s.length=1):PEv Tryz.prog 138 [.c (.str s),.c (.raw (.int .i64 n))] (.c (.str (Lib.repeatL s n.toNat))):=by
 have:=b6e s n.toNat (by rw [h];omega) (by omega)
 rwa [Int.toNat_of_nonneg h0.1] at this
def b3p:List AV->Option (Prop×AV):=t1 (fun n=>0<=n/\n<9223372036854775808) fun n:Int=>.c (.str (a0h n.toNat))
@[simp] theorem d8f {l:List AV}:b3p l=(t1 (fun n=>0<=n/\n<9223372036854775808) fun n:Int=>.c (.str (a0h n.toNat))) l:=(rfl)
def b3q:List AV->Option (Prop×AV):=t1 (fun s=>s.length<4611686018427387904) fun s:List UInt8=>a3F s
@[simp] theorem d8g {l:List AV}:b3q l=(t1 (fun s=>s.length<4611686018427387904) fun s:List UInt8=>a3F s) l:=(rfl)
def b3r:List AV->Option (Prop×AV):=t1 okP fun o:OpV=>.c (.str (a05 o))
@[simp] theorem d8h {l:List AV}:b3r l=(t1 okP fun o:OpV=>.c (.str (a05 o))) l:=(rfl)
def b3s:List AV->Option (Prop×AV):=t1 (fun s=>s.length<4611686018427387904) fun s:List UInt8=>.c (.str (a1e s))
@[simp] theorem d8i {l:List AV}:b3s l=(t1 (fun s=>s.length<4611686018427387904) fun s:List UInt8=>.c (.str (a1e s))) l:=(rfl)
def b3t:List AV->Option (Prop×AV):=t1 (fun s=>s.length<4611686018427387904) fun s:List UInt8=>a1y s
@[simp] theorem d8j {l:List AV}:b3t l=(t1 (fun s=>s.length<4611686018427387904) fun s:List UInt8=>a1y s) l:=(rfl)
def b3u:List AV->Option (Prop×AV):=t2 (fun s n=>(0<=n/\n<=1000000)/\s.length=1) fun (s:List UInt8) (n:Int)=>.c (.str (Lib.repeatL s n.toNat))
@[simp] theorem d8k {l:List AV}:b3u l=(t2 (fun s n=>(0<=n/\n<=1000000)/\s.length=1) fun (s:List UInt8) (n:Int)=>.c (.str (Lib.repeatL s n.toNat))) l:=(rfl)
def b3v:List AV->Option (Prop×AV):=t2 (fun l s=>s=[]/\l.length<1000000/\l.flatten.length<=140737488355328) fun (l:List (List UInt8)) (s:List UInt8)=>.c (.str l.flatten)
@[simp] theorem d8l {l:List AV}:b3v l=(t2 (fun l s=>s=[]/\l.length<1000000/\l.flatten.length<=140737488355328) fun (l:List (List UInt8)) (s:List UInt8)=>.c (.str l.flatten)) l:=(rfl)
def b3w:List AV->Option (Prop×AV):=t2 (fun _ _=>True) fun s p:List UInt8=>.c (.raw (.bool (a8m s p)))
@[simp] theorem d8m {l:List AV}:b3w l=(t2 (fun _ _=>True) fun s p:List UInt8=>.c (.raw (.bool (a8m s p)))) l:=(rfl)
def b3x:List AV->Option (Prop×AV):=t1 (fun e=>okO e.op) fun e:a0i=>.c (.raw (.bool (a0J e)))
@[simp] theorem d8n {l:List AV}:b3x l=(t1 (fun e=>okO e.op) fun e:a0i=>.c (.raw (.bool (a0J e)))) l:=(rfl)
def b3y:MH:=mh1 253 2 (rdG okR a7V b48)
@[simp] theorem d8o {H:Heap} {l:List AV}:b3y H l=(mh1 253 2 (rdG okR a7V b48)) H l:=(rfl)
def FT0:CT:=(192,.pu b3p)::(221,.pu b3q)::(168,.pu b3r)::(194,.pu b3s)::(204,.pu b3t)::(138,.pu b3u)::(203,.pu b3v)::(179,.pu b3w)::(163,.pu b3x)::(230,.mu b3y)::F5
theorem c4C:a1k Tryz.prog FT0:=⟨a0n fun n h=>by have:=a6V n.toNat (by omega);rwa [Int.toNat_of_nonneg h.1] at this,
 a0n fun s h=>a8f s h,
 a0n fun o h=>c0p o h,
 a0n fun s h=>b1x s h,
 a0n fun s h=>a94 s h,
 a0P fun s n h=>c1C s n h.1 h.2,
 a0P fun l s h=>by rw [h.1];exact d05 l h.2.1 h.2.2,
 a0P fun s p _=>b6f s p,
 a0n fun e h=>b59 e h,
 d0X,f3h⟩
@[simp] theorem d3w:a0c FT0 192=some (.pu b3p):=(rfl)
@[simp] theorem d3x:a0c FT0 221=some (.pu b3q):=(rfl)
@[simp] theorem d3y:a0c FT0 168=some (.pu b3r):=(rfl)
@[simp] theorem d3z:a0c FT0 194=some (.pu b3s):=(rfl)
@[simp] theorem d3A:a0c FT0 204=some (.pu b3t):=(rfl)
@[simp] theorem d3B:a0c FT0 138=some (.pu b3u):=(rfl)
@[simp] theorem d3C:a0c FT0 203=some (.pu b3v):=(rfl)
@[simp] theorem d3D:a0c FT0 179=some (.pu b3w):=(rfl)
@[simp] theorem d3E:a0c FT0 163=some (.pu b3x):=(rfl)
@[simp] theorem d3F:a0c FT0 230=some (.mu b3y):=(rfl)
@[simp] theorem e3W {n:Nat} (h:(n==192||n==221||n==168||n==194||n==204||n==138||n==203||n==179||n==163||n==230)=false):a0c FT0 n=a0c F5 n:=by
 simp only [Bool.or_eq_false_iff,beq_eq_false_iff_ne,ne_eq] at h
 simp [FT0,a0c,h]
def a06 (s:List UInt8):OpV×List UInt8×Int:=if (a7V ⟨s,false⟩).2.bad then (a0C,[],7) else ((a7V ⟨s,false⟩).1,(a7V ⟨s,false⟩).2.s,0)
def a4d (s:List UInt8):AV:=.t [(true,a0e .old (a06 s).1),(false,[.str (a06 s).2.1]),(false,[.raw (.int .i64 (a06 s).2.2)])]
theorem c4D (s:List UInt8) (hs:s.length<4611686018427387904):PEv Tryz.prog 222 [.c (.str s)] (a4d s):=by
 refine a0f mixed c4C Tryz.func222 f2f f2g (by kernel_rfl) (by simp [a4d,a0e]) (by simp) ?_
 have hr:okR ⟨s,false⟩:=hs
 rcases e:a7V ⟨s,false⟩ with ⟨o,s1,b1⟩
 cases b1
 ·have e2:a06 s=(o,s1,0):=by simp [a06,e]
  simp [e3k,e,hr,a0Z,b48,a0K,a4d,e2,a0e]
 ·have e2:a06 s=(a0C,[],7):=by simp [a06,e]
  simp [e3k,e,hr,a0Z,b48,a0K,a4d,e2,a0e,a0C]
theorem d06 (n:Nat):Lib.repeatL [0] n=List.replicate n 0:=by
 induction n with
 |zero=>rfl
 |succ n ih=>rw [Lib.repeatL,ih];rfl
def b1I (n:Nat):Nat:=(32-n%32)%32
def a8n (s:List UInt8):List UInt8:=s++List.replicate (b1I s.length) 0
theorem c4E (s:List UInt8) (hs:s.length<4611686018427387904):PEv Tryz.prog 193 [.c (.str s)] (.c (.str (a8n s))):=by
 refine a0f mixed c4C Tryz.func193 f1c f1d (by kernel_rfl) (by simp) (by simp) ?_
 have t:∀n:Nat,((n:Int).tmod 32)=((n%32:Nat):Int):=fun n=>rfl
 have e1:=t s.length
 have e2:IntKind.wrap .i64 (32-((s.length%32:Nat):Int))=((32-s.length%32:Nat):Int):=by rw [a0d]<;>omega
 have e3:(((32-s.length%32:Nat):Int).tmod 32)=((b1I s.length:Nat):Int):=t _
 have e4:b1I s.length<32:=by unfold b1I;omega
 generalize hq:s.length%32=q at e1 e2 e3
 generalize hq2:32-q=q2 at e2 e3
 simp [f1b,e1,e2,e3,d06,show b1I s.length<=1000000 by omega]
 exact ⟨by omega,by omega,rfl⟩
structure okF (e:a0i):Prop where
 join:e.join=true->okN e.a0H
 op:e.join=false->okP e.op
def a0V (e:a0i):List UInt8:=if e.join then a0h 1++a0h e.a0H.toNat else a0h 0++a05 e.op
def a0j (e:a0i):List UInt8×Int:=if 700<(a0V e).length then ([],2) else (a8n (a1e (a0V e)),0)
def a3d (e:a0i):AV:=.t [(false,[.str (a0j e).1]),(false,[.raw (.int .i64 (a0j e).2)])]
def b3z:List AV->Option (Prop×AV):=t1 (fun s=>s.length<4611686018427387904) fun s:List UInt8=>.c (.str (a8n s))
@[simp] theorem d8p {l:List AV}:b3z l=(t1 (fun s=>s.length<4611686018427387904) fun s:List UInt8=>.c (.str (a8n s))) l:=(rfl)
def b3A:List AV->Option (Prop×AV):=t1 (fun s=>s.length<4611686018427387904) fun s:List UInt8=>a4d s
@[simp] theorem d8q {l:List AV}:b3A l=(t1 (fun s=>s.length<4611686018427387904) fun s:List UInt8=>a4d s) l:=(rfl)
def FT1:CT:=(193,.pu b3z)::(222,.pu b3A)::FT0
theorem c4F:a1k Tryz.prog FT1:=⟨a0n fun s h=>c4E s h,
 a0n fun s h=>c4D s h,c4C⟩
@[simp] theorem d3G:a0c FT1 193=some (.pu b3z):=(rfl)
@[simp] theorem d3H:a0c FT1 222=some (.pu b3A):=(rfl)
@[simp] theorem e3X {n:Nat} (h:(n==193||n==222)=false):a0c FT1 n=a0c FT0 n:=by
 simp only [Bool.or_eq_false_iff,beq_eq_false_iff_ne,ne_eq] at h
 simp [FT1,a0c,h]
theorem a4j {o:OpV} (h:okP o):(a05 o).length<=40000000:=by
 have hl1:=a2K [o.site,o.seq,o.kind]
 have hl2:=a2K [o.of_,o.num,o.gen]
 have hl3:=a5f o.after
 have hl4:=a0B o.text.length
 have hl5:=a2K [(o.gone.length:Int)]
 have hl6:=h.text
 have hl7:=h.len
 have hl8:=b3g o.gone
 simp only [List.length_cons,List.length_nil] at hl1 hl2 hl5
 unfold a05 a4c b6a
 split<;>simp only [List.length_append]<;>omega
theorem b6g {s:List UInt8} (h:s.length<4611686018427387800):(a1e s).length<4611686018427387904:=by
 have h1:=a0B s.length
 unfold a1e
 split
 ·simp
 ·simp only [List.length_append]
  have l1:(a2H (ofN (a0h s.length++s))).length=4:=rfl
  omega
theorem c4G (e:a0i) (h:okF e):PEv Tryz.prog 164 [Arg.enc e] (a3d e):=by
 refine a0f mixed c4F Tryz.func164 f0F f0G (by kernel_rfl) (by simp [a3d]) (by simp [a0m,a0e]) ?_
 obtain ⟨h1,h2⟩:=h
 cases c:e.join
 ·have ho:=h2 c
  have hl:=a4j ho
  have hb:=a0B 0
  have e1:a0V e=a0h 0++a05 e.op:=by simp [a0V,c]
  have hp:(a0h 0++a05 e.op).length<=50000000:=by simp only [List.length_append];omega
  have hs:=b6g (s:=a0h 0++a05 e.op) (by omega)
  have l1:(a0h 0).length+(a05 e.op).length<=9223372036854775807:=by omega
  by_cases h7:700<(a0h 0++a05 e.op).length
  ·have e2:a0j e=([],2):=by rw [a0j,e1,if_pos h7]
   simp only [List.length_append] at h7
   have h7':(700:Int)<(a0h 0).length+(a05 e.op).length:=by omega
   simp [d6V,a0m,a0e,c,ho,l1,h7',a3d,e2]
  ·have e2:a0j e=(a8n (a1e (a0h 0++a05 e.op)),0):=by rw [a0j,e1,if_neg h7]
   simp only [List.length_append] at h7
   have h7':¬(700:Int)<(a0h 0).length+(a05 e.op).length:=by omega
   have l2:(a0h 0).length+(a05 e.op).length<4611686018427387904:=by omega
   simp [d6V,a0m,a0e,c,ho,l1,l2,h7',a3d,e2,hs]
 ·obtain ⟨ho,ho'⟩:=h1 c
  have hb:=a0B 1
  have hl:=a0B e.a0H.toNat
  have e1:a0V e=a0h 1++a0h e.a0H.toNat:=by simp [a0V,c]
  have hs:=b6g (s:=a0h 1++a0h e.a0H.toNat) (by simp only [List.length_append];omega)
  have l1:(a0h 1).length+(a0h e.a0H.toNat).length<=9223372036854775807:=by omega
  have h7:¬700<(a0h 1++a0h e.a0H.toNat).length:=by simp only [List.length_append];omega
  have e2:a0j e=(a8n (a1e (a0h 1++a0h e.a0H.toNat)),0):=by rw [a0j,e1,if_neg h7]
  have h7':¬(700:Int)<(a0h 1).length+(a0h e.a0H.toNat).length:=by omega
  have l2:(a0h 1).length+(a0h e.a0H.toNat).length<4611686018427387904:=by omega
  simp [d6V,a0m,a0e,c,ho,ho',l1,l2,h7',a3d,e2,hs]
open Go Go.Proofs
theorem a97 (s:List UInt8):(a1i s).2.1.length<=s.length:=by
 cases hn:takeN s with
 |none=>simp [a1i,hn]
 |some q=>
  obtain ⟨n,t⟩:=q
  have:=(a16 hn).2
  simp [a1i,hn]
  omega
theorem a7G (s:List UInt8):(a0Q s).1.length<=s.length/\(a0Q s).2.1.length<=s.length:=by
 cases hn:takeN s with
 |none=>simp [a0Q,hn]
 |some q=>
  obtain ⟨n,t⟩:=q
  have:=(a16 hn).2
  simp only [a0Q,hn]
  split
  ·simp;omega
  ·simp
theorem a27 (r:RdV):(rdNum r).2.s.length<=r.s.length:=a97 r.s
theorem b1J (r:RdV):(a1a r).2.s.length<=r.s.length:=by
 have h1:=a27 r
 have h2:=a27 (rdNum r).2
 have h3:=a27 (rdNum (rdNum r).2).2
 simp only [a1a]
 omega
theorem a6X (r:RdV):∀n,(a0T n r).2.s.length<=r.s.length/\(a0T n r).1.length=n
 |0=>⟨Nat.le_refl _,rfl⟩
 |n+1=>by
  obtain ⟨h1,h2⟩:=a6X r n
  have:=b1J (a0T n r).2
  refine ⟨?_,by simp [a0T,h2]⟩
  simp only [a0T]
  omega
theorem c7C (r:RdV):(a7V r).1.text.length<=r.s.length/\(a7V r).1.gone.length<=200/\(a7V r).2.s.length<=r.s.length:=by
 have h1:=a27 r
 have h2:=a27 (rdNum r).2
 have h3:=a27 (rdNum (rdNum r).2).2
 simp only [a7V]
 split
 ·have h4:=a27 (rdNum (rdNum (rdNum r).2).2).2
  have h5:=a27 (rdNum (rdNum (rdNum (rdNum r).2).2).2).2
  have h6:=a27 (rdNum (rdNum (rdNum (rdNum (rdNum r).2).2).2).2).2
  simp only [List.length_nil]
  omega
 ·have h4:=b1J (rdNum (rdNum (rdNum r).2).2).2
  have h5:=a7G (a1a (rdNum (rdNum (rdNum r).2).2).2).2.s
  have h6:=a27 (a1h (a1a (rdNum (rdNum (rdNum r).2).2).2).2).2
  obtain ⟨h7,h8⟩:=a6X (rdNum (a1h (a1a (rdNum (rdNum (rdNum r).2).2).2).2).2).2 (min (rdNum (a1h (a1a (rdNum (rdNum (rdNum r).2).2).2).2).2).1.toNat 200)
  obtain ⟨h9,h10⟩:=h5
  simp only [a1h] at h6 h7 h8 ⊢
  refine ⟨by omega,by omega,by omega⟩
theorem a5w (s:List UInt8):(a06 s).1.text.length<=s.length/\(a06 s).1.gone.length<=200/\(a06 s).2.1.length<=s.length:=by
 obtain ⟨h1,h2,h3⟩:=c7C ⟨s,false⟩
 unfold a06
 split
 ·simp [a0C]
 ·exact ⟨h1,h2,h3⟩
def zeroE:a0i:=⟨false,0,a0C⟩
def a2i (s:List UInt8):a0i×Bool:=
 if (a1i s).2.2≠0\/1<(a1i s).1 then (zeroE,false)
 else if (a1i s).1=1 then
  (⟨true,(a1i (a1i s).2.1).1,a0C⟩,decide ((a1i (a1i s).2.1).2.2=0)&&decide ((a1i (a1i s).2.1).2.1=[])&&a0J ⟨true,(a1i (a1i s).2.1).1,a0C⟩)
 else (⟨false,0,(a06 (a1i s).2.1).1⟩,decide ((a06 (a1i s).2.1).2.2=0)&&decide ((a06 (a1i s).2.1).2.1=[])&&a0J ⟨false,0,(a06 (a1i s).2.1).1⟩)
def a3B (s:List UInt8):AV:=.t [(true,a0m .old (a2i s).1),(false,[.raw (.bool (a2i s).2)])]
theorem c7D:okO a0C:=⟨by simp [a0C],by simp [a0C]⟩
theorem c7E (s:List UInt8) (hs:s.length<4611686018427387904):PEv Tryz.prog 205 [.c (.str s)] (a3B s):=by
 refine a0f mixed c4F Tryz.func205 f1x f1y (by kernel_rfl) (by simp [a3B,a0m,a0e]) (by simp) ?_
 have l1:=a97 s
 rcases e1:a1i s with ⟨n,r,x⟩
 rw [e1] at l1
 simp only at l1
 have l2:r.length<4611686018427387904:=by omega
 have hR:a2i s=if x≠0\/1<n then (zeroE,false)
   else if n=1 then (⟨true,(a1i r).1,a0C⟩,decide ((a1i r).2.2=0)&&decide ((a1i r).2.1=[])&&a0J ⟨true,(a1i r).1,a0C⟩)
   else (⟨false,0,(a06 r).1⟩,decide ((a06 r).2.2=0)&&decide ((a06 r).2.1=[])&&a0J ⟨false,0,(a06 r).1⟩):=by simp only [a2i,e1]
 have e1':a3F s=.t [(false,[.raw (.int .i64 n)]),(false,[.str r]),(false,[.raw (.int .i64 x)])]:=by simp [a3F,e1]
 by_cases c1:x=0
 rotate_left
 ·rw [if_pos (Or.inl c1)] at hR
  simp [c55,hs,e1',c1,a3B,hR,a0m,a0e,zeroE,a0C]
 by_cases c2:1<n
 ·rw [if_pos (Or.inr c2)] at hR
  have c2':(1:Int)<n:=by omega
  simp [c55,hs,e1',c1,c2',a3B,hR,a0m,a0e,zeroE,a0C]
 rw [if_neg (by omega)] at hR
 have c2':¬(1:Int)<n:=by omega
 by_cases c3:n=1
 ·rw [if_pos c3] at hR
  have c3':(n:Int)=1:=by omega
  rcases e2:a1i r with ⟨m,r2,x2⟩
  rw [e2] at hR
  simp only at hR
  have e2':a3F r=.t [(false,[.raw (.int .i64 m)]),(false,[.str r2]),(false,[.raw (.int .i64 x2)])]:=by simp [a3F,e2]
  have hz:okO a0C:=c7D
  have hd:(⟨true,(m:Int),⟨0,0,0,⟨0,0,0⟩,[],[],0,0,0⟩⟩:a0i)=⟨true,m,a0C⟩:=rfl
  have hd2:∀w:Tag,a0e w a0C=a0e w ⟨0,0,0,⟨0,0,0⟩,[],[],0,0,0⟩:=fun _=>rfl
  cases c4:decide (x2=0)
  ·rw [c4] at hR
   simp [c55,hs,l2,e1',e2',c1,c2',c3',c4,a3B,hR,a0m,hd2,a0e]
   simp [a0C]
  rw [c4] at hR
  cases c5:decide (r2=[])
  ·rw [c5] at hR
   simp [c55,hs,l2,e1',e2',c1,c2',c3',c4,c5,a3B,hR,a0m,hd2,a0e]
   simp [a0C]
  ·rw [c5] at hR
   simp [c55,hs,l2,e1',e2',c1,c2',c3',c4,c5,a3B,hR,a0m,hd2,a0e,hz,hd]
   simp [a0C]
 ·rw [if_neg c3] at hR
  have c3':¬(n:Int)=1:=by omega
  obtain ⟨g1,g2,g3⟩:=a5w r
  rcases e2:a06 r with ⟨o,r2,x2⟩
  rw [e2] at hR g1 g2 g3
  simp only at hR g1 g2 g3
  have ho:okO o:=⟨by omega,by omega⟩
  cases c4:decide (x2=0)
  ·rw [c4] at hR
   simp [c55,hs,l2,e1',e2,a4d,c1,c2',c3',c4,a3B,hR,a0m,a0e]
  rw [c4] at hR
  cases c5:decide (r2=[])
  ·rw [c5] at hR
   simp [c55,hs,l2,e1',e2,a4d,c1,c2',c3',c4,c5,a3B,hR,a0m,a0e]
  ·rw [c5] at hR
   simp [c55,hs,l2,e1',e2,a4d,c1,c2',c3',c4,c5,a3B,hR,a0m,a0e,ho]
theorem b1K {o:OpV} {p:Option a0F} {x:a0F} {l:List a0F} (h:a3g o p (x::l)=true):a2o x=true/\a3g o (some x) l=true:=by
 have key:∀(B:Bool) (X:Bool),(if decide (x=⟨0,0,0⟩)||!a2o x||ownB o x||B then false else X)=true->a2o x=true/\X=true:=by
  intro B X h
  cases h1:a2o x
  ·rw [h1] at h;simp at h
  ·refine ⟨rfl,?_⟩
   split at h
   ·cases h
   ·exact h
 cases p with
 |none=>exact key _ _ h
 |some q=>exact key _ _ h
theorem b6h {o:OpV} (h:a0v o=true) (h1:o.text.length<1000000) (h2:o.gone.length<1000000):okP o:=by
 simp only [a0v,Bool.and_eq_true] at h
 obtain ⟨hn,h⟩:=h
 have hn:=a8h hn
 by_cases hk:o.kind=1
 ·rw [if_pos hk] at h
  simp only [a3X,Bool.and_eq_true,decide_eq_true_eq] at h
  obtain ⟨⟨⟨⟨⟨⟨⟨⟨⟨e1,_⟩,_⟩,_⟩,_⟩,_⟩,e2⟩,e3⟩,e4⟩,e5⟩:=h
  have hg:∀(l:List a0F) (p:Option a0F),a3g o p l=true->∀e∈l,okE e:=by
   intro l
   induction l with
   |nil=>intro p _ e he;simp at he
   |cons x l ih=>
    intro p hp e he
    obtain ⟨k1,k2⟩:=b1K hp
    rcases List.mem_cons.1 he with rfl|he
    ·exact c0o k1
    ·exact ih _ k2 e he
  simp only [a4r,Bool.and_eq_true] at e2
  exact ⟨⟨by omega,by omega⟩,⟨by omega,by omega⟩,by rw [hk];exact ⟨by omega,by omega⟩,by rw [e3];exact ⟨by omega,by omega⟩,by rw [e4];exact ⟨by omega,by omega⟩,by rw [e5];exact ⟨by omega,by omega⟩,c0o e1,hg _ _ e2.1,h1,h2⟩
 ·rw [if_neg hk] at h
  simp only [a1M,Bool.and_eq_true,decide_eq_true_eq,Bool.not_eq_true',decide_eq_false_iff_not] at h
  obtain ⟨hk2,⟨⟨⟨⟨⟨e1,_⟩,e2⟩,e3⟩,e4⟩,_⟩,e5⟩:=h
  have e1:=a8h e1
  exact ⟨⟨by omega,by omega⟩,⟨by omega,by omega⟩,by rw [hk2];exact ⟨by omega,by omega⟩,⟨by omega,by omega⟩,⟨by omega,by omega⟩,⟨by omega,by omega⟩,by rw [e4];exact ⟨⟨by simp,by simp⟩,⟨by simp,by simp⟩,by simp,by simp⟩,by rw [e5];intro e he;simp at he,h1,h2⟩
theorem a3L {e:a0i} (h:a0J e=true) (h1:e.op.text.length<1000000) (h2:e.op.gone.length<1000000):okF e:=by
 unfold a0J at h
 refine ⟨fun hj=>?_,fun hj=>?_⟩
 ·rw [hj] at h
  simp only [if_true,Bool.and_eq_true,decide_eq_true_eq] at h
  exact ⟨by omega,by omega⟩
 ·rw [hj] at h
  simp only [Bool.false_eq_true,if_false,Bool.and_eq_true] at h
  exact b6h h.2 h1 h2
theorem c0r {s:List UInt8} (hs:s.length<1000000) (h:(a2i s).2=true):okF (a2i s).1:=by
 have l1:=a97 s
 obtain ⟨g1,g2,g3⟩:=a5w (a1i s).2.1
 unfold a2i at h ⊢
 split at h
 ·cases h
 ·rename_i c1
  rw [if_neg c1]
  split at h
  ·rename_i c2
   rw [if_pos c2]
   simp only [Bool.and_eq_true] at h
   exact a3L h.2 (by simp [a0C]) (by simp [a0C])
  ·rename_i c2
   rw [if_neg c2]
   simp only [Bool.and_eq_true] at h
   exact a3L h.2 (by show (a06 (a1i s).2.1).1.text.length<_;omega) (by show (a06 (a1i s).2.1).1.gone.length<_;omega)
open Go
theorem a6q {s r:List UInt8} {n:Nat} (h:takeN s=some (n,r)):s=a0h n++r:=by
 have go:∀(k m acc:Nat) (s r:List UInt8) (n j:Nat),1<=m->a3D k m acc s=some (n,r)->k<=j+1->∃q,n=acc+q*m/\s=a1d j q++r/\(1<m->1<=q):=by
  intro k
  induction k with
  |zero=>intro m acc s r n j _ h;cases h
  |succ k ih=>
   intro m acc s r n j hm h hj
   cases s with
   |nil=>cases h
   |cons b s=>
    have hb:=b.toNat_lt
    rw [a3D] at h
    split at h
    ·rename_i hb8
     have hk:k≠0:=by rintro rfl;cases h
     obtain ⟨j,rfl⟩:∃i,j=i+1:=⟨j-1,by omega⟩
     obtain ⟨q,h1,h2,h3⟩:=ih _ _ _ _ _ j (by omega) h (by omega)
     have h3:=h3 (by omega)
     refine ⟨b.toNat%128+q*128,?_,?_,fun _=>by omega⟩
     ·rw [h1,Nat.add_mul,Nat.mul_assoc,Nat.mul_comm m 128];omega
     ·have e1:¬b.toNat%128+q*128<128:=by omega
      have e2:(b.toNat%128+q*128)%128+128=b.toNat:=by omega
      have e3:(b.toNat%128+q*128)/128=q:=by omega
      have e4:UInt8.ofNat b.toNat=b:=by simp
      rw [a1d,if_neg e1,e2,e3,e4,h2]
      rfl
    ·split at h
     ·cases h
     ·rename_i hb8 hc
      cases h
      have e0:b.toNat%128=b.toNat:=by omega
      refine ⟨b.toNat,by rw [e0],?_,fun h1=>by omega⟩
      have e4:UInt8.ofNat b.toNat=b:=by simp
      cases j with
      |zero=>rw [a1d,e4];rfl
      |succ j=>rw [a1d,if_pos (by omega),e4];rfl
 obtain ⟨q,h1,h2,_⟩:=go 5 1 0 s r n 9 (Nat.le_refl _) h (by omega)
 have:n=q:=by omega
 rw [this]
 exact h2
theorem a2T {r:RdV} (h:(rdNum r).2.bad=false):r.bad=false/\r.s=a0h (rdNum r).1.toNat++(rdNum r).2.s:=by
 simp only [rdNum,Bool.or_eq_false_iff] at h
 obtain ⟨h1,h2⟩:=h
 refine ⟨h1,?_⟩
 simp only [rdNum,a1i] at h2 ⊢
 cases hn:takeN r.s with
 |none=>simp [hn] at h2
 |some q=>exact a6q hn
theorem c4H {r:RdV} (h:(a1h r).2.bad=false):r.bad=false/\r.s=a0h (a1h r).1.length++(a1h r).1++(a1h r).2.s:=by
 simp only [a1h,Bool.or_eq_false_iff] at h
 obtain ⟨h1,h2⟩:=h
 refine ⟨h1,?_⟩
 simp only [a1h,a0Q] at h2 ⊢
 cases hn:takeN r.s with
 |none=>simp [hn] at h2
 |some q=>
  obtain ⟨n,t⟩:=q
  simp only [hn] at h2 ⊢
  split
  ·rename_i hl
   have e:(t.take n).length=n:=by rw [List.length_take];omega
   simp only [e]
   rw [List.append_assoc,List.take_append_drop]
   exact a6q hn
  ·rename_i hl
   rw [if_neg hl] at h2
   simp at h2
theorem b6i {r:RdV} (h:(a1a r).2.bad=false):r.bad=false/\r.s=a1V (a1a r).1++(a1a r).2.s:=by
 have h3:=a2T (r:=(rdNum (rdNum r).2).2) h
 have h2:=a2T h3.1
 have h1:=a2T h2.1
 refine ⟨h1.1,?_⟩
 rw [h1.2,h2.2,h3.2]
 simp [a1a,a1V,a2d]
theorem b1L (r:RdV):∀n,(a0T n r).2.bad=false->r.bad=false/\r.s=(a0T n r).1.flatMap a1V++(a0T n r).2.s
 |0,h=>⟨h,rfl⟩
 |n+1,h=>by
  have h1:=b6i (r:=(a0T n r).2) h
  obtain ⟨h2,h3⟩:=b1L r n h1.1
  refine ⟨h2,?_⟩
  rw [h3,h1.2]
  simp [a0T]
theorem d07 {r:RdV} (h:(a7V r).2.bad=false):r.bad=false/\a0v (a7V r).1=true/\r.s=a05 (a7V r).1++(a7V r).2.s:=by
 by_cases hk:(rdNum (rdNum (rdNum r).2).2).1=2
 ·simp only [a7V,if_pos hk,Bool.or_eq_false_iff] at h ⊢
  obtain ⟨h,hm⟩:=h
  have h6:=a2T h
  have h5:=a2T h6.1
  have h4:=a2T h5.1
  have h3:=a2T h4.1
  have h2:=a2T h3.1
  have h1:=a2T h2.1
  refine ⟨h1.1,by simpa using hm,?_⟩
  rw [h1.2,h2.2,h3.2,h4.2,h5.2,h6.2]
  simp [a05,hk,a4c,a2d]
 ·simp only [a7V,if_neg hk,Bool.or_eq_false_iff] at h ⊢
  obtain ⟨⟨h,hn⟩,hm⟩:=h
  have h7:=b1L _ _ h
  have h6:=a2T h7.1
  have h5:=c4H h6.1
  have h4:=b6i h5.1
  have h3:=a2T h4.1
  have h2:=a2T h3.1
  have h1:=a2T h2.1
  refine ⟨h1.1,by simpa using hm,?_⟩
  have hl:=(a6X (rdNum (a1h (a1a (rdNum (rdNum (rdNum r).2).2).2).2).2).2 (min (rdNum (a1h (a1a (rdNum (rdNum (rdNum r).2).2).2).2).2).1.toNat 200)).2
  have hnn:=b3m (a1h (a1a (rdNum (rdNum (rdNum r).2).2).2).2).2
  have hn:=of_decide_eq_false hn
  have e:(a0T (min (rdNum (a1h (a1a (rdNum (rdNum (rdNum r).2).2).2).2).2).1.toNat 200) (rdNum (a1h (a1a (rdNum (rdNum (rdNum r).2).2).2).2).2).2).1.length=(rdNum (a1h (a1a (rdNum (rdNum (rdNum r).2).2).2).2).2).1.toNat:=by rw [hl];omega
  rw [h1.2,h2.2,h3.2,h4.2,h5.2,h6.2,h7.2]
  simp [a05,hk,a4c,b6a,a2d,e]
  rw [Int.max_eq_left hnn.1]
theorem c1D {s:List UInt8} (h:(a06 s).2.2=0):s=a05 (a06 s).1++(a06 s).2.1:=by
 unfold a06 at h ⊢
 split
 ·rename_i hb;rw [if_pos hb] at h;cases h
 ·rename_i hb
  exact (d07 (r:=⟨s,false⟩) (by simpa using hb)).2.2
theorem c0s {s:List UInt8} (h:(a1i s).2.2=0):s=a0h (a1i s).1++(a1i s).2.1:=by
 unfold a1i at h ⊢
 cases hn:takeN s with
 |none=>simp [hn] at h
 |some q=>exact a6q hn
theorem a9j {s:List UInt8} (h:(a2i s).2=true):a0V (a2i s).1=s:=by
 unfold a2i at h ⊢
 split
 ·rename_i c;rw [if_pos c] at h;cases h
 ·rename_i c
  rw [if_neg c] at h
  have c1:(a1i s).2.2=0:=by
   refine Classical.byContradiction fun q=>c (.inl q)
  have h1:=c0s c1
  split
  ·rename_i c2
   rw [if_pos c2] at h
   simp only [Bool.and_eq_true,decide_eq_true_eq] at h
   have h2:=c0s h.1.1
   rw [h.1.2] at h2
   rw [c2] at h1
   simp only [a0V,if_true,Int.toNat_natCast]
   rw [List.append_nil] at h2
   exact (congrArg (a0h 1++·) h2.symm).trans h1.symm
  ·rename_i c2
   rw [if_neg c2] at h
   simp only [Bool.and_eq_true,decide_eq_true_eq] at h
   have h2:=c1D h.1.1
   rw [h.1.2,List.append_nil] at h2
   have c3:(a1i s).1=0:=by
    have:¬1<(a1i s).1:=fun q=>c (.inr q)
    omega
   rw [c3] at h1
   simp only [a0V,Bool.false_eq_true,if_false]
   rw [<-h2]
   exact h1.symm
theorem a6r {s t r:List UInt8} (h:a2Y s=some (t,r)):s=a1e t++r/\t.length<=700:=by
 unfold a2Y at h
 cases hn:takeN s with
 |none=>simp [hn] at h
 |some q=>
  obtain ⟨n,q⟩:=q
  simp only [hn] at h
  split at h
  ·cases h
  ·rename_i hc
   split at h
   ·rename_i hs
    have hs1:=a6q hn
    simp only [Option.some.injEq,Prod.mk.injEq] at h
    obtain ⟨ht,hr⟩:=h
    have hl:t.length=n:=by rw [<-ht];simp;omega
    have e1:s.take (s.length-q.length)=a0h n:=by
     conv=>lhs;rw [hs1]
     simp
    rw [e1,ht] at hs
    refine ⟨?_,by omega⟩
    have e2:q=a2H (ofN (a0h n++t))++(t++r):=by
     rw [<-hs,<-hr,<-ht]
     have:q.take (4+n)=q.take 4++(q.take (4+n)).drop 4:=by
      conv=>lhs;rw [<-List.take_append_drop 4 (q.take (4+n))]
      rw [List.take_take]
      congr 2
      omega
     rw [<-List.append_assoc,<-this,List.take_append_drop]
    rw [a1e,if_neg (by omega),hl]
    conv=>lhs;rw [hs1,e2]
    simp
   ·cases h
open Go Go.Proofs
def b3B:List AV->Option (Prop×AV):=t1 okF fun e:a0i=>a3d e
@[simp] theorem d8r {l:List AV}:b3B l=(t1 okF fun e:a0i=>a3d e) l:=(rfl)
def b3C:List AV->Option (Prop×AV):=t1 (fun s=>s.length<4611686018427387904) fun s:List UInt8=>a3B s
@[simp] theorem d8s {l:List AV}:b3C l=(t1 (fun s=>s.length<4611686018427387904) fun s:List UInt8=>a3B s) l:=(rfl)
def FT2:CT:=(164,.pu b3B)::(205,.pu b3C)::FT1
theorem c85:a1k Tryz.prog FT2:=⟨a0n fun e h=>c4G e h,
 a0n fun s h=>c7E s h,c4F⟩
@[simp] theorem d3I:a0c FT2 164=some (.pu b3B):=(rfl)
@[simp] theorem d3J:a0c FT2 205=some (.pu b3C):=(rfl)
@[simp] theorem e3Y {n:Nat} (h:(n==164||n==205)=false):a0c FT2 n=a0c FT1 n:=by
 simp only [Bool.or_eq_false_iff,beq_eq_false_iff_ne,ne_eq] at h
 simp [FT2,a0c,h]
def a0U (s:List UInt8):a0i×Nat×Bool:=
 match a2Y s with
 |none=>(zeroE,0,false)
 |some (t,_)=>if (a2i t).2 then ((a2i t).1,(a0j (a2i t).1).1.length/32,a8m s (a0j (a2i t).1).1) else ((a2i t).1,0,false)
def a2f (r:a0i×Nat×Bool):AV:=.t [(true,a0m .old r.1),(false,[.raw (.int .i64 r.2.1)]),(false,[.raw (.bool r.2.2)])]
theorem a7H:∀{l:List (List UInt8)},(∀x∈l,x.length=32)->l.flatten.length=32*l.length
 |[],_=>rfl
 |x::l,h=>by
  have h1:=h x List.mem_cons_self
  have h2:=a7H (l:=l) fun y hy=>h y (List.mem_cons_of_mem _ hy)
  simp only [List.flatten_cons,List.length_append,List.length_cons]
  omega
theorem a4s (x:a0i):(a0j x).1.length<=800:=by
 unfold a0j
 split
 ·simp
 ·rename_i h
  have h1:=a0B (a0V x).length
  have l1:(a2H (ofN (a0h (a0V x).length++a0V x))).length=4:=rfl
  simp only [a8n,a1e,if_neg h,List.length_append,List.length_replicate,l1,b1I]
  omega
theorem a57 {s:List UInt8} (h:(a0U s).2.2=true):1<=(a0U s).2.1/\32*(a0U s).2.1<=s.length/\(a0U s).2.1<=25:=by
 unfold a0U at h ⊢
 cases hq:a2Y s with
 |none=>simp [hq] at h
 |some q=>
  obtain ⟨t,r⟩:=q
  obtain ⟨hsp,ht7⟩:=a6r hq
  simp only [hq] at h ⊢
  split
  ·rename_i hr
   rw [if_pos hr] at h
   have hp:=a9j hr
   simp only at h ⊢
   have e:(a0j (a2i t).1).1=a8n (a1e t):=by rw [a0j,hp,if_neg (by omega)]
   have hl:=a4s (a2i t).1
   rw [e] at h hl ⊢
   have hpre:(a8n (a1e t)).length<=s.length:=by
    have:=List.isPrefixOf_iff_prefix.1 h
    exact this.length_le
   have h5:5<=(a1e t).length:=by
    rw [a1e,if_neg (by omega)]
    have l1:(a2H (ofN (a0h t.length++t))).length=4:=rfl
    have l2:1<=(a0h t.length).length:=by
     show 1<=(a1d 9 t.length).length
     rw [a1d]
     split<;>simp
    simp only [List.length_append,l1]
    omega
   have hm:(a8n (a1e t)).length=(a1e t).length+b1I (a1e t).length:=by simp [a8n]
   unfold b1I at hm
   omega
  ·rename_i hr
   rw [if_neg hr] at h
   cases h
theorem c7F (l:List (List UInt8)) (hl:∀x∈l,x.length=32) (hn:l.length<1000000):PEv Tryz.prog 175 [Arg.enc l] (a2f (a0U (l.take 23).flatten)):=by
 refine a0f mixed c85 Tryz.func175 f0Q f0R (by kernel_rfl) (by simp [a2f,a0m,a0e]) (by simp) ?_
 obtain ⟨m,hm⟩:∃m,m=min l.length 23:=⟨_,rfl⟩
 have hmi:(if (23:Int)<l.length then (23:Int) else l.length)=(m:Int):=by split<;>omega
 have ht:l.take 23=l.take m:=by
  rw [hm]
  by_cases h:l.length<=23
  ·rw [Nat.min_eq_left h,List.take_of_length_le h,List.take_length]
  ·rw [Nat.min_eq_right (by omega)]
 have htr:List.take m (a0a l)=a0a (l.take m):=by simp [a0a]
 have hf:(l.take m).flatten.length=32*m:=by
  rw [a7H fun x hx=>hl x (List.mem_of_mem_take hx),List.length_take]
  omega
 have hml:m<=l.length:=by omega
 have g06:m<=23:=by omega
 rw [ht]
 obtain ⟨s,hs⟩:∃s,s=(l.take m).flatten:=⟨_,rfl⟩
 rw [<-hs] at hf ⊢
 have b1:(l.take m).length<1000000:=by rw [List.length_take];omega
 have b2:(l.take m).flatten.length<=140737488355328:=by rw [<-hs];omega
 have b3:s.length<4611686018427387904:=by omega
 have b1':m<1000000:=by omega
 have b2':(List.take m (List.map List.length l)).sum<=140737488355328:=by simpa using b2
 cases hq:a2Y s with
 |none=>
  have e1:a1y s=.t [(false,[.str []]),(false,[.str []]),(false,[.raw (.bool false)])]:=by simp [a1y,hq]
  have e2:a0U s=(zeroE,0,false):=by simp [a0U,hq]
  simp [d6W,hmi,hml,htr,<-hs,b1',b2',b3,e1,e2,a2f,a0m,a0e,zeroE,a0C]
 |some q=>
  obtain ⟨t,r⟩:=q
  have e1:a1y s=.t [(false,[.str t]),(false,[.str r]),(false,[.raw (.bool true)])]:=by simp [a1y,hq]
  obtain ⟨hsp,ht7⟩:=a6r hq
  have b4:t.length<4611686018427387904:=by omega
  rcases e3:a2i t with ⟨x,ok⟩
  have e3':a3B t=.t [(true,a0m .old x),(false,[.raw (.bool ok)])]:=by simp [a3B,e3]
  cases ok
  ·have e2:a0U s=(x,0,false):=by simp [a0U,hq,e3]
   simp [d6W,hmi,hml,htr,<-hs,b1',b2',b3,b4,e1,e2,e3',a2f,a0m,a0e]
  ·have e2:a0U s=(x,(a0j x).1.length/32,a8m s (a0j x).1):=by simp [a0U,hq,e3]
   have hx:=c0r (s:=t) (by omega) (by rw [e3])
   rw [e3] at hx
   simp only at hx
   have e4:a3d x=.t [(false,[.str (a0j x).1]),(false,[.raw (.int .i64 (a0j x).2)])]:=rfl
   generalize hb:(a0j x).1=b at e2 e4
   simp [d6W,Call.operands,hmi,hml,htr,<-hs,b1',b2',b3,b4,e1,e2,e3',e4,hx,a2f,a0m,a0e]
   have hbl:=a4s x
   rw [hb] at hbl
   rw [a0d]<;>omega
open Go Go.Proofs
def secs (l:List (List UInt8)):Prop:=∀x∈l,x.length=32
def b3D:List AV->Option (Prop×AV):=t1 (fun l=>secs l/\l.length<1000000) fun l:List (List UInt8)=>a2f (a0U (l.take 23).flatten)
@[simp] theorem d8t {l:List AV}:b3D l=(t1 (fun l=>secs l/\l.length<1000000) fun l:List (List UInt8)=>a2f (a0U (l.take 23).flatten)) l:=(rfl)
def FT3:CT:=(175,.pu b3D)::FT2
theorem c86:a1k Tryz.prog FT3:=⟨a0n fun l h=>c7F l h.1 h.2,c85⟩
@[simp] theorem d3K:a0c FT3 175=some (.pu b3D):=(rfl)
@[simp] theorem e3Z {n:Nat} (h:(n==175)=false):a0c FT3 n=a0c FT2 n:=by
 simp only [Bool.or_eq_false_iff,beq_eq_false_iff_ne,ne_eq] at h
 simp [FT3,a0c,h]
def a1R:Nat->List (List UInt8)->Nat->List a0i×Nat
 |0,_,a=>([],a)
 |k+1,l,a=>if l=[] then ([],a) else
  if (a0U (l.take 23).flatten).2.2 then
   ((a0U (l.take 23).flatten).1::(a1R k (l.drop (a0U (l.take 23).flatten).2.1) (a+(a0U (l.take 23).flatten).2.1)).1,(a1R k (l.drop (a0U (l.take 23).flatten).2.1) (a+(a0U (l.take 23).flatten).2.1)).2)
  else ([],a)
def a2v (d:a0k):List a0i×Nat×Int:=if a1N d=true then ((a1R d.safe.length d.safe 0).1,(a1R d.safe.length d.safe 0).2,0) else ([],0,1)
def a8Z (r:List a0i×Nat×Int):AV:=.t [(false,[.nw 97 13 (a0a r.1)]),(false,[.raw (.int .i64 r.2.1)]),(false,[.raw (.int .i64 r.2.2)])]
theorem a1f {d:a0k} (h:a1N d=true):secs d.safe/\1<=d.safe.length/\d.safe.length<=400:=by
 simp only [a1N,Bool.and_eq_true,decide_eq_true_eq,List.all_eq_true] at h
 obtain ⟨⟨⟨⟨h1,h2⟩,_⟩,h3⟩,_⟩:=h
 exact ⟨fun x hx=>by simpa [a4Y] using h3 x hx,h1,h2⟩
theorem c4I (d:a0k) (h1:d.safe.length<1000000) (h2:d.wait.length<1000000):PEv Tryz.prog 130 [Arg.enc d] (a8Z (a2v d)):=by
 refine a0f mixed c86 Tryz.func130 e9K e9L (by kernel_rfl) (by simp [a8Z]) (by simp) ?_
 cases hm:a1N d
 ·have e:a2v d=([],0,1):=by simp [a2v,hm]
  simp [e27,h1,h2,hm,e,a8Z]
 obtain ⟨b02,hl1,hl4⟩:=a1f hm
 have e:a2v d=((a1R d.safe.length d.safe 0).1,(a1R d.safe.length d.safe 0).2,0):=by simp [a2v,hm]
 obtain ⟨R,hR⟩:∃R,R=a1R d.safe.length d.safe 0:=⟨_,rfl⟩
 rw [<-hR] at e
 simp [e27,h1,h2,hm,e,a8Z]
 refine a1E (fun q st=>∃(a k:Nat) (acc:List a0i),a<=d.safe.length/\q=d.safe.length-a/\d.safe.length-a<=k/\st.s 1=.c (.pt (0,1) 0 0)/\st.s 3=.c (.raw (.int .i64 a))/\acc.length<=a/\
  acc++(a1R k (d.safe.drop a) a).1=R.1/\(a1R k (d.safe.drop a) a).2=R.2/\st.H (0,1)=.arr 25 2 false [[.sl .brw false (a0a d.safe),.sl .brw false (a0a d.wait)]]/\
  ((st.s 2=.c (.raw (.slice none 0 0))/\acc=[])\/∃id,st.s 2=.c (.so id 0 acc.length)/\st.H id=.arr 97 13 false (a0a acc))/\0<st.T/\a0E st.H st.T) d.safe.length ?_ ?_
 ·refine ⟨0,d.safe.length,[],by omega,by omega,by omega,?_⟩
  simp [hR]
  (repeat' (first|exact a1n.mono (Nat.zero_le _)|(refine a0E.set' ?_ (by simp))))
 rintro q st ⟨a,k,acc,ha,rfl,hk,q1,q3,hac,hr1,hr2,hD,hown,hT,hf⟩
 have hfu:∀k d,st.T<=k->st.H (k,d)=.a0g:=hf
 have f5U:∀d,st.H (st.T+1+1+1,d)=.a0g:=fun d=>hf _ _ (by omega)
 by_cases hlt:a<d.safe.length
 ·have hlt':(a:Int)<d.safe.length:=by omega
  have hle:a<=d.safe.length:=by omega
  have htr:List.drop a (a0a d.safe)=a0a (d.safe.drop a):=by simp [a0a]
  have hs2:secs (d.safe.drop a):=fun x hx=>b02 x (List.mem_of_mem_drop hx)
  have hs3:d.safe.length-a<1000000:=by omega
  obtain ⟨k,rfl⟩:∃j,k=j+1:=⟨k-1,by omega⟩
  have hne:d.safe.drop a≠[]:=by intro h;have:=congrArg List.length h;simp at this;omega
  rw [a1R,if_neg hne] at hr1 hr2
  obtain ⟨S,hS⟩:∃S,S=((d.safe.drop a).take 23).flatten:=⟨_,rfl⟩
  have hSl:S.length<=32*(d.safe.length-a):=by
   rw [hS,a7H fun x hx=>hs2 x (List.mem_of_mem_take hx),List.length_take,List.length_drop]
   omega
  rw [<-hS] at hr1 hr2
  have hok:=@a57 S
  rcases hfr:a0U S with ⟨x,n,ok⟩
  rw [hfr] at hr1 hr2 hok
  simp only at hr1 hr2 hok
  cases ok
  ·simp only [Bool.false_eq_true,if_false] at hr1 hr2
   rcases hown with ⟨q2,rfl⟩|⟨id,q2,hid⟩
   ·simp [a90,q1,q2,q3,hD,hlt',hle,htr,hs2,hs3,<-hS,hfr,a2f,a0m,a0e,hfu]
    exact ⟨by simpa using hr1.symm,hr2⟩
   ·obtain ⟨p1,p2,p3⟩:=hf.arr hid
    simp [a90,q1,q2,q3,hD,hlt',hle,htr,hs2,hs3,<-hS,hfr,a2f,a0m,a0e,hfu,hid,p1,p2]
    simp only [List.append_nil] at hr1
    exact ⟨⟨hr1,by rw [hr1]⟩,hr2⟩
  ·simp only [if_true] at hr1 hr2
   obtain ⟨n1,n2,n3⟩:=hok rfl
   have hdd:(d.safe.drop a).drop n=d.safe.drop (a+n):=by rw [List.drop_drop]
   rw [hdd] at hr1 hr2
   have hr2':=hr2
   have hw:IntKind.wrap .i64 ((a:Int)+n)=((a+n:Nat):Int):=by rw [a0d]<;>omega
   rcases hown with ⟨q2,rfl⟩|⟨id,q2,hid⟩
   ·simp [a90,q1,q2,q3,hD,hlt',hle,htr,hs2,hs3,<-hS,hfr,a2f,a0m,a0e,hfu,f5U,hw]
    refine ⟨d.safe.length-(a+n),by omega,a+n,by omega,rfl,k,by omega,by simp,[x],by simp;omega,?_,hr2',⟨_,_,⟨⟨rfl,rfl⟩,rfl⟩,?_⟩,?_⟩
    ·simpa [hdd] using hr1
    ·simp [a0a,a0m,a0e]
    ·repeat' (first|exact hf.mono (by first|omega|(simp<;>omega))|(refine a0E.set' ?_ (by first|omega|(simp<;>omega))))
   ·obtain ⟨p1,p2,p3⟩:=hf.arr hid
    have p4:∀d,((st.T+1+1+1,d)=id)=False:=fun d=>p1 _ d (by omega)
    have p5:∀d,(id=(st.T+1+1+1,d))=False:=fun d=>p2 _ d (by omega)
    have p6:∀d,((st.T+1,d)=id)=False:=fun d=>p1 _ d (by omega)
    have p7:∀d,(id=(st.T+1,d))=False:=fun d=>p2 _ d (by omega)
    simp [a90,q1,q2,q3,hD,hlt',hle,htr,hs2,hs3,<-hS,hfr,a2f,a0m,a0e,hfu,f5U,hid,p1,p2,p4,p5,p6,p7,hw]
    refine ⟨⟨by omega,by omega⟩,d.safe.length-(a+n),by omega,a+n,by omega,rfl,k,by omega,by simp,acc++[x],by simp;omega,by simpa using hr1,hr2',?_,⟨_,_,⟨⟨rfl,rfl⟩,by simp⟩,?_⟩,?_⟩
    ·intro h
     rw [<-h,hD] at hid
     simp at hid
    ·simp [a0a,a0m,a0e]
    ·repeat' (first|exact hf.mono (by first|omega|(simp<;>omega))|(refine a0E.set' ?_ (by first|omega|(simp<;>omega))))
 ·have:a=d.safe.length:=by omega
  subst this
  have hd:d.safe.drop d.safe.length=[]:=List.drop_length
  have hr3:(a1R k (d.safe.drop d.safe.length) d.safe.length)=([],d.safe.length):=by
   rw [hd]
   cases k with
   |zero=>rfl
   |succ k=>rw [a1R,if_pos rfl]
  rw [hr3] at hr1 hr2
  simp only [List.append_nil] at hr1 hr2
  rcases hown with ⟨q2,rfl⟩|⟨id,q2,hid⟩
  ·simp [a90,q1,q2,q3,hD,<-hr1,<-hr2]
  ·simp [a90,q1,q2,q3,hD,<-hr1,<-hr2,hid]
open Go Go.Proofs
def noD:a0k:=⟨[],[]⟩
def a7c (s:List UInt8) (i:Nat):List UInt8:=(s.drop (32*i)).take 32
def b6j (s:List UInt8) (at_:Int):Nat->Nat->a0k->a0k×Int
 |0,_,d=>(d,0)
 |k+1,i,d=>if (a9i d (at_+i) (a7c s i)).2=0 then b6j s at_ k (i+1) (a9i d (at_+i) (a7c s i)).1 else (noD,(a9i d (at_+i) (a7c s i)).2)
def a1v (d:a0k) (at_:Int) (e:a0i):a0k×Int×Int:=
 if a1N d=true/\a0J e=true/\0<=at_ then
  if (a0j e).2=0 then
   if (((a0j e).1.length/32:Nat):Int)>(d.safe.length:Int)-min at_ (d.safe.length:Int) then (noD,0,6)
   else if (b6j (a0j e).1 at_ ((a0j e).1.length/32) 0 d).2=0 then ((b6j (a0j e).1 at_ ((a0j e).1.length/32) 0 d).1,at_+((a0j e).1.length/32:Nat),0)
   else (noD,0,(b6j (a0j e).1 at_ ((a0j e).1.length/32) 0 d).2)
  else (noD,0,(a0j e).2)
 else (noD,0,1)
def a2l (r:a0k×Int×Int):AV:=.t [(true,a0y r.1),(false,[.raw (.int .i64 r.2.1)]),(false,[.raw (.int .i64 r.2.2)])]
theorem a6s {e:a0i} (h:(a0j e).2=0):1<=(a0j e).1.length/32/\32*((a0j e).1.length/32)=(a0j e).1.length/\(a0j e).1.length/32<=25:=by
 have hl:=a4s e
 unfold a0j at h hl ⊢
 split at h
 ·cases h
 ·rename_i h7
  rw [if_neg h7] at hl ⊢
  have h5:5<=(a1e (a0V e)).length:=by
   rw [a1e,if_neg (by omega)]
   have l1:(a2H (ofN (a0h (a0V e).length++a0V e))).length=4:=rfl
   have l2:1<=(a0h (a0V e).length).length:=by
    show 1<=(a1d 9 (a0V e).length).length
    rw [a1d]
    split<;>simp
   simp only [List.length_append,l1]
   omega
  have hm:(a8n (a1e (a0V e))).length=(a1e (a0V e)).length+b1I (a1e (a0V e)).length:=by simp [a8n]
  unfold b1I at hm
  simp only at hl ⊢
  omega
theorem a2M {d:a0k} (h:a1N d=true):d.wait.length<=400:=by
 simp only [a1N,Bool.and_eq_true,decide_eq_true_eq] at h
 exact h.1.1.2
theorem b3E (d:a0k) (n:Int) (s:List UInt8):(a9i d n s).1.safe.length<=d.safe.length/\(a9i d n s).1.wait.length<=d.wait.length+1:=by
 unfold a9i
 repeat' split
 all_goals simp
def c7G:List AV->Option (Prop×AV):=t1 (fun d:a0k=>d.safe.length<1000000/\d.wait.length<1000000) fun d:a0k=>a8Z (a2v d)
def FT4:CT:=(130,.pu c7G)::FT3
theorem c87:a1k Tryz.prog FT4:=⟨a0n fun d h=>c4I d h.1 h.2,c86⟩
@[simp] theorem e30 {n:Nat} (h:(n==130)=false):a0c FT4 n=a0c FT3 n:=by
 simp only [Bool.or_eq_false_iff,beq_eq_false_iff_ne,ne_eq] at h
 simp [FT4,a0c,h]
theorem b6k (d:a0k) (at_:Int) (e:a0i) (h1:d.safe.length<1000000) (h2:d.wait.length<1000000) (h3:e.op.text.length<1000000) (h4:e.op.gone.length<1000000) (hat:at_<9223372036854775808) :
  PEv Tryz.prog 107 [Arg.enc d,.c (.raw (.int .i64 at_)),Arg.enc e] (a2l (a1v d at_ e)):=by
 refine a0f mixed c87 Tryz.func107 e9e e9f (by kernel_rfl) (by simp [a2l,a0y]) (by simp [a0m,a0e]) ?_
 have ho:okO e.op:=⟨by omega,by omega⟩
 cases hm:a1N d
 ·have er:a1v d at_ e=(noD,0,1):=by simp [a1v,hm]
  simp [c8R,a0m,a0e,h1,h2,hm,er,a2l,noD,a0y]
 cases he:a0J e
 ·have er:a1v d at_ e=(noD,0,1):=by simp [a1v,he]
  simp [c8R,a0m,a0e,h1,h2,hm,ho,he,er,a2l,noD,a0y]
 by_cases ha:at_<0
 ·have er:a1v d at_ e=(noD,0,1):=by rw [a1v,if_neg (by omega)]
  simp [c8R,a0m,a0e,h1,h2,hm,ho,he,ha,er,a2l,noD,a0y]
 have hof:=a3L he h3 h4
 have er1:a1v d at_ e=if (a0j e).2=0 then
   if (((a0j e).1.length/32:Nat):Int)>(d.safe.length:Int)-min at_ (d.safe.length:Int) then (noD,0,6)
   else if (b6j (a0j e).1 at_ ((a0j e).1.length/32) 0 d).2=0 then ((b6j (a0j e).1 at_ ((a0j e).1.length/32) 0 d).1,at_+((a0j e).1.length/32:Nat),0)
   else (noD,0,(b6j (a0j e).1 at_ ((a0j e).1.length/32) 0 d).2)
  else (noD,0,(a0j e).2):=by rw [a1v,if_pos ⟨hm,he,by omega⟩]
 have hfk:=@a6s e
 have e4:a3d e=.t [(false,[.str (a0j e).1]),(false,[.raw (.int .i64 (a0j e).2)])]:=rfl
 rcases hf:a0j e with ⟨b,c⟩
 rw [hf] at er1 hfk e4
 simp only at er1 hfk e4
 by_cases hc:c=0
 rotate_left
 ·rw [if_neg hc] at er1
  simp [c8R,a0m,a0e,h1,h2,hm,ho,he,ha,hof,e4,hc,er1,a2l,noD,a0y]
 subst hc
 obtain ⟨k1,k2,k3⟩:=hfk rfl
 rw [if_pos rfl] at er1
 have e5:(b.length:Int).tdiv 32=((b.length/32:Nat):Int):=rfl
 obtain ⟨n,hn⟩:∃n,n=b.length/32:=⟨_,rfl⟩
 rw [<-hn] at er1 k1 k2 k3 e5
 have e6:IntKind.wrap .i64 (n:Int)=n:=by rw [a0d]<;>omega
 have e7:(if (d.safe.length:Int)<at_ then (d.safe.length:Int) else at_)=min at_ (d.safe.length:Int):=by omega
 have e8:IntKind.wrap .i64 ((d.safe.length:Int)-min at_ (d.safe.length:Int))=(d.safe.length:Int)-min at_ (d.safe.length:Int):=by rw [a0d]<;>omega
 obtain ⟨z,hz⟩:∃z,z=(d.safe.length:Int)-min at_ (d.safe.length:Int):=⟨_,rfl⟩
 rw [<-hz] at er1 e8
 by_cases hn2:z<n
 ·rw [if_pos (by omega)] at er1
  simp [c8R,a0m,a0e,h1,h2,hm,ho,he,ha,hof,e4,e5,e6,e7,e8,<-hz,hn2,er1,a2l,noD,a0y]
 rw [if_neg (by omega)] at er1
 have g07:at_+n<=d.safe.length:=by omega
 simp [c8R,a0m,a0e,h1,h2,hm,ho,he,ha,hof,e4,e5,e6,e7,e8,<-hz,hn2,a2l,noD,a0y]
 obtain ⟨R,hR⟩:∃R,R=b6j b at_ n 0 d:=⟨_,rfl⟩
 rw [<-hR] at er1
 have c5Z:=a2M hm
 refine a1E (fun q st=>∃(i:Nat) (D:a0k),i<=n/\q=n-i/\st.s 1=.c (.raw (.int .i64 at_))/\st.s 3=.c (.pt (0,3) 0 0)/\st.s 6=.c (.pt (0,6) 0 0)/\st.s 9=.c (.str b)/\st.s 10=.c (.raw (.int .i64 n))/\st.s 49=.c (.raw (.int .i64 n))/\st.s 50=.c (.raw (.int .i64 i))/\
  st.H (0,6)=.arr 25 2 false [[.raw (.slice none 0 0),.raw (.slice none 0 0)]]/\b6j b at_ (n-i) i D=R/\D.safe.length<=d.safe.length/\D.wait.length<=d.wait.length+i/\
  ((i=0/\st.H (0,3)=.arr 25 2 false [[.sl .brw false (a0a D.safe),.sl .brw false (a0a D.wait)]])\/
   ∃j1 j2,j1≠j2/\st.H (0,3)=.arr 25 2 false [[.so j1 0 D.safe.length,.so j2 0 D.wait.length]]/\st.H j1=.arr 9 1 false (a0a D.safe)/\st.H j2=.arr 125 2 false (a0a D.wait))/\0<st.T/\a0E st.H st.T) n ?_ ?_
 ·refine ⟨0,d,by omega,by omega,?_⟩
  simp [hR]
  (repeat' (first|exact a1n.mono (Nat.zero_le _)|(refine a0E.set' ?_ (by simp))))
 rintro q st ⟨i,D,hi,rfl,q1,q3,q6,q9,q10,q49,q50,hH6,hap,hs,hwt,hD,hT,hfr⟩
 have hfu:∀k d,st.T<=k->st.H (k,d)=.a0g:=hfr
 by_cases hlt:i<n
 ·have hlt':(i:Int)<n:=by omega
  have w1:IntKind.wrap .i64 (at_+i)=at_+i:=by rw [a0d]<;>omega
  have w2:IntKind.wrap .i64 ((i:Int)*32)=((32*i:Nat):Int):=by rw [a0d]<;>omega
  have w3:IntKind.wrap .i64 ((i:Int)+1)=((i+1:Nat):Int):=by rw [a0d]<;>omega
  have w4:IntKind.wrap .i64 (((i:Int)+1)*32)=((32*i+32:Nat):Int):=by rw [a0d]<;>omega
  obtain ⟨lo,hlo⟩:∃x,x=32*i:=⟨_,rfl⟩
  obtain ⟨hi2,hhi⟩:∃x,x=32*i+32:=⟨_,rfl⟩
  rw [<-hlo] at w2
  rw [<-hhi] at w4
  have w5:lo<=hi2:=by omega
  have w6:hi2<=b.length:=by omega
  have b1:D.safe.length<1000000:=by omega
  have b2:D.wait.length<1000000:=by omega
  obtain ⟨l1,l2⟩:=b3E D (at_+i) (a7c b i)
  rw [show n-i=(n-(i+1))+1 by omega,b6j] at hap
  have b02:(b.take hi2).drop lo=a7c b i:=by
   rw [a7c,List.drop_take,<-hlo,hhi,hlo]
   congr 1
   omega
  obtain ⟨Ds,Dw⟩:=D
  rcases hp:a9i ⟨Ds,Dw⟩ (at_+i) (a7c b i) with ⟨D2,c⟩
  have c50:∀d,st.H (st.T+1+1,d)=.a0g:=fun d=>hfr _ _ (by omega)
  simp only at b1 b2 hs hwt hD
  rw [hp] at hap l1 l2
  simp only at hap l1 l2
  by_cases hc:c=0
  ·rw [if_pos hc] at hap
   subst hc
   rcases hD with ⟨h0,hH3⟩|⟨j1,j2,hjj,hH3,hj1,hj2⟩
   ·simp [b1p,q1,q3,q6,q9,q10,q49,q50,hH6,hH3,hlt',w1,w2,w3,w4,w5,w6,b1,b2,b02,hp,a1j,a0y,hfu,c50]
    refine ⟨n-(i+1),by omega,i+1,by omega,rfl,rfl,D2,hap,by omega,by omega,⟨_,_,_,_,?_,⟨⟨⟨rfl,rfl⟩,rfl⟩,⟨rfl,rfl⟩,rfl⟩,?_,?_⟩,?_⟩
    ·simp
    ·simp
    ·simp
    ·have hf:=hfr
     repeat' (first|exact hf.mono (by first|omega|(simp<;>omega))|(refine a0E.set' ?_ (by first|omega|(simp<;>omega))))
   ·simp [b1p,q1,q3,q6,q9,q10,q49,q50,hH6,hH3,hj1,hj2,hlt',w1,w2,w3,w4,w5,w6,b1,b2,b02,hp,a1j,a0y,hfu,c50]
    refine ⟨n-(i+1),by omega,i+1,by omega,rfl,rfl,D2,hap,by omega,by omega,⟨_,_,_,_,?_,⟨⟨⟨rfl,rfl⟩,rfl⟩,⟨rfl,rfl⟩,rfl⟩,?_,?_⟩,?_⟩
    ·simp
    ·simp
    ·simp
    ·have hf:=hfr
     repeat' (first|exact hf.mono (by first|omega|(simp<;>omega))|(refine a0E.set' ?_ (by first|omega|(simp<;>omega))))
  ·rw [if_neg hc] at hap
   have er2:a1v d at_ e=(noD,0,c):=by rw [er1,<-hap,if_neg hc]
   rcases hD with ⟨h0,hH3⟩|⟨j1,j2,hjj,hH3,hj1,hj2⟩
   ·simp [b1p,q1,q3,q6,q9,q10,q49,q50,hH6,hH3,hlt',w1,w2,w3,w4,w5,w6,b1,b2,b02,hp,a1j,a0y,hfu,c50,hc,er2,noD]
   ·simp [b1p,q1,q3,q6,q9,q10,q49,q50,hH6,hH3,hj1,hj2,hlt',w1,w2,w3,w4,w5,w6,b1,b2,b02,hp,a1j,a0y,hfu,c50,hc,er2,noD]
 ·have:i=n:=by omega
  subst this
  rw [Nat.sub_self,b6j] at hap
  have w1:IntKind.wrap .i64 (at_+i)=at_+i:=by rw [a0d]<;>omega
  have er2:a1v d at_ e=(D,at_+i,0):=by rw [er1,<-hap,if_pos rfl]
  rcases hD with ⟨h0,hH3⟩|⟨j1,j2,hjj,hH3,hj1,hj2⟩
  ·omega
  ·simp [b1p,q1,q3,q6,q9,q10,q49,q50,hH6,hH3,hj1,hj2,w1,er2]
   refine ⟨⟨?_,?_⟩,hjj⟩
   ·rintro rfl
    rw [hH6] at hj1
    simp at hj1
   ·rintro rfl
    rw [hH6] at hj2
    simp at hj2
open Go Go.Proofs
def b7Q:List AV->Option (Prop×AV):=t0 (.c (.str blank))
@[simp] theorem e31 {l:List AV}:b7Q l=(t0 (.c (.str blank))) l:=(rfl)
def FT5:CT:=(82,.pu b7Q)::FT4
theorem c88:a1k Tryz.prog FT5:=⟨b1i a8l,c87⟩
@[simp] theorem d8u:a0c FT5 82=some (.pu b7Q):=(rfl)
@[simp] theorem e32 {n:Nat} (h:(n==82)=false):a0c FT5 n=a0c FT4 n:=by
 simp only [Bool.or_eq_false_iff,beq_eq_false_iff_ne,ne_eq] at h
 simp [FT5,a0c,h]
def a1W (at_:Int):List (List UInt8)->Nat->a0k->a0k×Int
 |[],_,d=>(d,0)
 |s::l,i,d=>if (i:Int)<at_\/s=blank then a1W at_ l (i+1) d
  else if (a9i d i blank).2=0 then a1W at_ l (i+1) (a9i d i blank).1 else (noD,(a9i d i blank).2)
def a1G (d:a0k) (at_:Int):a0k×Int:=
 if a1N d=true/\0<=at_ then (if (a1W at_ d.safe 0 d).2=0 then a3E (a1W at_ d.safe 0 d).1 else (noD,(a1W at_ d.safe 0 d).2)) else (noD,1)
theorem c0t (d:a0k) (at_:Int) (h1:d.safe.length<1000000) (h2:d.wait.length<1000000) :
  PEv Tryz.prog 76 [Arg.enc d,.c (.raw (.int .i64 at_))] (a1j (a1G d at_)):=by
 refine a0f mixed c88 Tryz.func76 f9J f9K (by kernel_rfl) (by simp [a1j,a0y]) (by simp) ?_
 cases hm:a1N d
 ·have er:a1G d at_=(noD,1):=by simp [a1G,hm]
  simp [s76,h1,h2,hm,er,a1j,noD,a0y]
 by_cases ha:at_<0
 ·have er:a1G d at_=(noD,1):=by rw [a1G,if_neg (by omega)]
  simp [s76,h1,h2,hm,ha,er,a1j,noD,a0y]
 obtain ⟨R,hR⟩:∃R,R=a1W at_ d.safe 0 d:=⟨_,rfl⟩
 have er1:a1G d at_=if R.2=0 then a3E R.1 else (noD,R.2):=by rw [a1G,if_pos ⟨hm,by omega⟩,hR]
 have c5Z:=a2M hm
 obtain ⟨_,_,c8C⟩:=a1f hm
 simp [s76,h1,h2,hm,ha,a1j,a0y]
 refine a1E (fun q st=>∃(i:Nat) (D:a0k),i<=d.safe.length/\q=d.safe.length-i/\st.s 1=.c (.raw (.int .i64 at_))/\st.s 2=.c (.pt (0,2) 0 0)/\st.s 4=.c (.pt (0,4) 0 0)/\st.s 18=.c (.sl .brw false (a0a d.safe))/\st.s 19=.c (.raw (.int .i64 d.safe.length))/\st.s 20=.c (.raw (.int .i64 i))/\
  st.H (0,4)=.arr 25 2 false [[.raw (.slice none 0 0),.raw (.slice none 0 0)]]/\a1W at_ (d.safe.drop i) i D=R/\D.safe.length<=d.safe.length/\D.wait.length<=d.wait.length+i/\
  (st.H (0,2)=.arr 25 2 false [[.sl .brw false (a0a D.safe),.sl .brw false (a0a D.wait)]]\/
   ∃j1 j2,j1≠j2/\st.H (0,2)=.arr 25 2 false [[.so j1 0 D.safe.length,.so j2 0 D.wait.length]]/\st.H j1=.arr 9 1 false (a0a D.safe)/\st.H j2=.arr 125 2 false (a0a D.wait))/\0<st.T/\a0E st.H st.T) d.safe.length ?_ ?_
 ·refine ⟨0,d,by omega,by omega,?_⟩
  simp [hR]
  (repeat' (first|exact a1n.mono (Nat.zero_le _)|(refine a0E.set' ?_ (by simp))))
 rintro q st ⟨i,D,hi,rfl,q1,q2,q4,q18,q19,q20,hH4,hap,hs,hwt,hD,hT,hfr⟩
 have hfu:∀k d,st.T<=k->st.H (k,d)=.a0g:=hfr
 have c50:∀d,st.H (st.T+1+1+1+1,d)=.a0g:=fun d=>hfr _ _ (by omega)
 obtain ⟨Ds,Dw⟩:=D
 simp only at hs hwt hD
 have b1:Ds.length<1000000:=by omega
 have b2:Dw.length<1000000:=by omega
 by_cases hlt:i<d.safe.length
 ·have hlt':(i:Int)<d.safe.length:=by omega
  have w3:IntKind.wrap .i64 ((i:Int)+1)=((i+1:Nat):Int):=by rw [a0d]<;>omega
  rw [List.drop_eq_getElem_cons hlt,a1W] at hap
  by_cases c1:(i:Int)<at_
  ·rw [if_pos (Or.inl c1)] at hap
   simp [b2I,q1,q2,q4,q18,q19,q20,hH4,hlt,hlt',c1,w3]
   exact ⟨d.safe.length-(i+1),by omega,i+1,by omega,rfl,by simp,⟨Ds,Dw⟩,hap,hs,by simp only;omega,by simpa using hD,by first|exact hfr|exact hfr.mono (by omega)⟩
  cases c2:decide (d.safe[i]=blank)
  rotate_left
  ·rw [if_pos (Or.inr (of_decide_eq_true c2))] at hap
   simp [b2I,q1,q2,q4,q18,q19,q20,hH4,hlt,hlt',c1,c2,w3]
   exact ⟨d.safe.length-(i+1),by omega,i+1,by omega,rfl,by simp,⟨Ds,Dw⟩,hap,hs,by simp only;omega,by simpa using hD,by first|exact hfr|exact hfr.mono (by omega)⟩
  ·rw [if_neg (by have:=of_decide_eq_false c2;simp [c1,this])] at hap
   obtain ⟨l1,l2⟩:=b3E ⟨Ds,Dw⟩ i blank
   rcases hp:a9i ⟨Ds,Dw⟩ i blank with ⟨D2,c⟩
   rw [hp] at hap l1 l2
   simp only at hap l1 l2
   by_cases hc:c=0
   ·rw [if_pos hc] at hap
    subst hc
    rcases hD with hH3|⟨j1,j2,hjj,hH3,hj1,hj2⟩
    ·simp [b2I,q1,q2,q4,q18,q19,q20,hH4,hlt,hlt',c1,c2,w3,hH3,b1,b2,hp,a1j,a0y,hfu,c50]
     refine ⟨d.safe.length-(i+1),by omega,i+1,by omega,rfl,by simp,D2,hap,by omega,by omega,⟨_,_,_,_,?_,⟨⟨⟨rfl,rfl⟩,rfl⟩,⟨rfl,rfl⟩,rfl⟩,?_,?_⟩,?_⟩
     ·simp
     ·simp
     ·simp
     ·have hf:=hfr
      repeat' (first|exact hf.mono (by first|omega|(simp<;>omega))|(refine a0E.set' ?_ (by first|omega|(simp<;>omega))))
    ·simp [b2I,q1,q2,q4,q18,q19,q20,hH4,hlt,hlt',c1,c2,w3,hH3,hj1,hj2,b1,b2,hp,a1j,a0y,hfu,c50]
     refine ⟨d.safe.length-(i+1),by omega,i+1,by omega,rfl,by simp,D2,hap,by omega,by omega,⟨_,_,_,_,?_,⟨⟨⟨rfl,rfl⟩,rfl⟩,⟨rfl,rfl⟩,rfl⟩,?_,?_⟩,?_⟩
     ·simp
     ·simp
     ·simp
     ·have hf:=hfr
      repeat' (first|exact hf.mono (by first|omega|(simp<;>omega))|(refine a0E.set' ?_ (by first|omega|(simp<;>omega))))
   ·rw [if_neg hc] at hap
    have er2:a1G d at_=(noD,c):=by rw [er1,<-hap,if_neg hc]
    rcases hD with hH3|⟨j1,j2,hjj,hH3,hj1,hj2⟩
    ·simp [b2I,q1,q2,q4,q18,q19,q20,hH4,hlt,hlt',c1,c2,w3,hH3,b1,b2,hp,a1j,a0y,hfu,c50,hc,er2,noD]
    ·simp [b2I,q1,q2,q4,q18,q19,q20,hH4,hlt,hlt',c1,c2,w3,hH3,hj1,hj2,b1,b2,hp,a1j,a0y,hfu,c50,hc,er2,noD]
 ·have:i=d.safe.length:=by omega
  subst this
  rw [List.drop_length,a1W] at hap
  have er2:a1G d at_=a3E ⟨Ds,Dw⟩:=by rw [er1,<-hap,if_pos rfl]
  rcases hD with hH3|⟨j1,j2,hjj,hH3,hj1,hj2⟩
  ·simp [b2I,q1,q2,q4,q18,q19,q20,hH4,hH3,b1,b2,er2,a1j,a0y,hfu,c50]
  ·simp [b2I,q1,q2,q4,q18,q19,q20,hH4,hH3,hj1,hj2,b1,b2,er2,a1j,a0y,hfu,c50]
open Go Go.Proofs
def b7R:List AV->Option (Prop×AV):=t2 (fun a _=>a.length<4611686018427387904) fun a b:List a0F=>.c (.raw (.bool (decide (a=b))))
@[simp] theorem e33 {l:List AV}:b7R l=(t2 (fun a _=>a.length<4611686018427387904) fun a b:List a0F=>.c (.raw (.bool (decide (a=b))))) l:=(rfl)
def FE0:CT:=(65,.pu b7R)::FT5
theorem c89:a1k Tryz.prog FE0:=⟨a0P fun a b h=>b1A a b h,c88⟩
@[simp] theorem d8v:a0c FE0 65=some (.pu b7R):=(rfl)
@[simp] theorem e34 {n:Nat} (h:(n==65)=false):a0c FE0 n=a0c FT5 n:=by
 simp only [Bool.or_eq_false_iff,beq_eq_false_iff_ne,ne_eq] at h
 simp [FE0,a0c,h]
theorem b7S (a b:OpV) (ha:a.gone.length<4611686018427387904):PEv Tryz.prog 24 [Arg.enc a,Arg.enc b] (.c (.raw (.bool (a2L a b)))):=by
 refine a0f mixed c89 Tryz.func24 f9n f9o (by kernel_rfl) (by simp) (by simp [a0e]) ?_
 have hz:=c8Z a.after b.after
 cases c2:decide (a.site=b.site)
 ·simp [s24,a0e,a2L,hz,c2,ha]
 cases c3:decide (a.seq=b.seq)
 ·simp [s24,a0e,a2L,hz,c2,c3,ha]
 cases c4:decide (a.kind=b.kind)
 ·simp [s24,a0e,a2L,hz,c2,c3,c4,ha]
 cases c5:decide (a.after=b.after)
 ·rw [c5] at hz
  simp [s24,a0e,a2L,hz,c2,c3,c4,c5,ha]
 rw [c5] at hz
 cases c6:decide (a.text=b.text)
 ·simp [s24,a0e,a2L,hz,c2,c3,c4,c5,c6,ha]
 cases c1:decide (a.gone=b.gone)
 ·simp [s24,a0e,a2L,hz,c1,c2,c3,c4,c5,c6,ha]
 cases c7:decide (a.of_=b.of_)
 ·simp [s24,a0e,a2L,hz,c1,c2,c3,c4,c5,c6,c7,ha]
 cases c8:decide (a.num=b.num)
 ·simp [s24,a0e,a2L,hz,c1,c2,c3,c4,c5,c6,c7,c8,ha]
 ·simp [s24,a0e,a2L,hz,c1,c2,c3,c4,c5,c6,c7,c8,ha]
def b7T:List AV->Option (Prop×AV):=t2 (fun a _=>a.gone.length<4611686018427387904) fun a b:OpV=>.c (.raw (.bool (a2L a b)))
@[simp] theorem e35 {l:List AV}:b7T l=(t2 (fun a _=>a.gone.length<4611686018427387904) fun a b:OpV=>.c (.raw (.bool (a2L a b)))) l:=(rfl)
def FE1:CT:=(24,.pu b7T)::FE0
theorem d8w:a1k Tryz.prog FE1:=⟨a0P fun a b h=>b7S a b h,c89⟩
@[simp] theorem d8x:a0c FE1 24=some (.pu b7T):=(rfl)
@[simp] theorem e36 {n:Nat} (h:(n==24)=false):a0c FE1 n=a0c FE0 n:=by
 simp only [Bool.or_eq_false_iff,beq_eq_false_iff_ne,ne_eq] at h
 simp [FE1,a0c,h]
def FE2:CT:=FE1
theorem d8y:a1k Tryz.prog FE2:=d8w
attribute [simp] FE2
open Go Go.Proofs
def c7H:List AV->Option (Prop×AV):=t1 (fun _=>True) fun e:a0F=>.g [.raw (.int .i64 e.site),.raw (.int .i64 e.seq)]
def FV1:CT:=(219,.pu c7H)::FP0
theorem a6a:a1k Tryz.prog FV1:=⟨a0n fun e _=>d7j e,c4m⟩
@[simp] theorem e37 {n:Nat} (h:(n==219)=false):a0c FV1 n=a0c FP0 n:=by
 simp only [Bool.or_eq_false_iff,beq_eq_false_iff_ne,ne_eq] at h
 simp [FV1,a0c,h]
structure CkV where
 sz:List (List Int×Int)
 ah:List (List Int×Int)
 all:Int
abbrev w64 (n:Int):Int:=IntKind.wrap .i64 n
def CkV.ahead (c:CkV) (s:Int):Int:=(lk c.ah [s]).getD 0
def CkV.note (c:CkV) (o:OpV):CkV:={c with ah:=pt c.ah [o.site] (w64 (c.ahead o.site+1))}
def CkV.add (c:CkV) (o:OpV):CkV:={c.note o with sz:=pt c.sz [o.site,o.seq] (a07 o.text),all:=w64 (c.all+a07 o.text)}
def a4E (c:CkV) (o:OpV):Bool×CkV:=
 if a0v o=false\/o.seq≠w64 (c.ahead o.site+1)\/wrB c.sz o.after=false then (false,c)
 else if (o.gone.any fun e=>!wrB c.sz e)=true then (false,c)
 else if o.kind=2 then ((lk c.sz [o.of_,o.num]).isSome,c.note o)
 else (decide ((c.add o).all<=200),c.add o)
theorem d08 (c:CkV) (o:OpV) (ho:okO o):VC Tryz.prog 166 [.c (.pt (0,1) 0 0),.g (Enc.row o)] (ckH c.sz c.ah c.all) (.c (.raw (.bool (a4E c o).1))) (ckH (a4E c o).2.sz (a4E c o).2.ah (a4E c o).2.all):=by
 refine a50 mixed a6a Tryz.func166 e8L e8M (by kernel_rfl) (by simp) (a1p ?_)
 obtain ⟨sz,ah,all⟩:=c
 generalize hR:a4E ⟨sz,ah,all⟩ o=R
 unfold a4E at hR
 cases c1:a0v o
 ·rw [if_pos (.inl c1)] at hR
  subst hR
  simp [d6K,a0e,c1,ho]
 cases c2:decide (o.seq=w64 ((lk ah [o.site]).getD 0+1))
 ·have c2':=of_decide_eq_false c2
  rw [if_pos (.inr (.inl c2'))] at hR
  subst hR
  simp [d6K,a0e,c1,c2,ho]
 have c2':=of_decide_eq_true c2
 simp [d6K,a0e,c1,c2,ho]
 refine c7h (b1r sz ah all o.after) (by kernel_rfl) ?_
 simp
 cases c3:wrB sz o.after
 ·rw [if_pos (.inr (.inr c3))] at hR
  subst hR
  simp
 rw [if_neg (by rintro (h|h|h)<;>first|(rw [c1] at h;cases h;done)|exact h c2'|(rw [show (CkV.mk sz ah all).sz=sz from rfl,c3] at h;cases h))] at hR
 simp
 refine a4N (c37 sz ah all o.gone ho.2) ?_
 simp only [show (CkV.mk sz ah all).sz=sz from rfl] at hR
 cases c4:o.gone.any fun e=>!wrB sz e
 rotate_left
 ·rw [if_pos c4] at hR
  subst hR
  simp
 rw [if_neg (by simp [c4])] at hR
 cases c5:decide (o.kind=2)
 ·rw [if_neg (of_decide_eq_false c5)] at hR
  subst hR
  simp [c5,CkV.add,CkV.note,CkV.ahead]
  exact ⟨Nat.lt_trans ho.1 (by omega),rfl⟩
 ·rw [if_pos (of_decide_eq_true c5)] at hR
  subst hR
  simp [c5,CkV.note,CkV.ahead]
@[simp] def vkC (c:CkV):List HO:=vkH c.sz c.ah c.all
theorem d09 (c:CkV) (o:OpV) (ho:okO o):VC Tryz.prog 165 [.g (Enc.row o),.c (.pt (0,0) 0 0)] (vkC c) (.c (.raw (.bool (!(a4E c o).1)))) (vkC (a4E c o).2):=by
 refine a50 mixed a6a Tryz.func165 e8J e8K (by kernel_rfl) (by simp) (a1p ?_)
 simp [e8I,a0e]
 refine a4N (d08 c o ho) ?_
 simp [a0e]
def ixG:CkV->Nat->List OpV->Int×CkV
 |c,_,[]=>(-1,c)
 |c,k,o::r=>if (a4E c o).1=true then ixG (a4E c o).2 (k+1) r else (k,(a4E c o).2)
theorem d1a (c:CkV) (l:List OpV) (hl:l.length<4611686018427387904) (ho:∀o∈l,okO o):VC Tryz.prog 187 [.c (.sl .brw false (a0a l)),.c (.fn 165 [.pt (0,0) 0 0])] (vkC c) (.c (.raw (.int .i64 (ixG c 0 l).1))) (vkC (ixG c 0 l).2):=by
 refine a50 mixed a6a Tryz.func187 d6Y d6Z (by kernel_rfl) (by simp) (a1p ?_)
 generalize hR:ixG c 0 l=R
 simp [e3h]
 refine vl (fun p:Nat×CkV=>p.1<=l.length/\ixG p.2 p.1 (l.drop p.1)=R)
  (fun p=>mkS [(0,.c (.sl .brw false (a0a l))),(1,.c (.fn 165 [.pt (0,0) 0 0])),(7,.c (.raw (.int .i64 l.length))),(8,.c (.raw (.int .i64 p.1)))] (vkC p.2)) (fun p=>l.length-p.1) (0,c) (by simpa using hR) (a0b rfl ?_) ?_
 ·simp
 rintro ⟨i,c⟩ ⟨hi,hx⟩ J hJ
 simp only at hi hx
 by_cases hlt:i<l.length
 ·have hw:IntKind.wrap .i64 ((i:Int)+1)=((i+1:Nat):Int):=by rw [a0d]<;>omega
  rw [List.drop_eq_getElem_cons hlt,ixG] at hx
  simp [a7w,hlt,a0e]
  refine a4N (d09 c l[i] (ho _ (List.getElem_mem hlt))) ?_
  cases hg:(a4E c l[i]).1
  ·rw [if_neg (by simp [hg])] at hx
   subst hx
   simp [a7w,hw,hg,a0e]
  ·rw [if_pos hg] at hx
   simp [a7w,hw,hg,a0e]
   refine hJ (i+1,(a4E c l[i]).2) ⟨by simp;omega,hx⟩ (by simp;omega) _ (a0b rfl ?_)
   simp
 ·simp [a7w,hlt]
  rw [<-hx,List.drop_eq_nil_of_le (by omega)]
  simp [ixG]
theorem d1b (c:CkV) (l:List OpV) (hl:l.length<4611686018427387904) (ho:∀o∈l,okO o):VC Tryz.prog 151 [.c (.sl .brw false (a0a l)),.c (.fn 165 [.pt (0,0) 0 0])] (vkC c) (.c (.raw (.bool (decide (0<=(ixG c 0 l).1))))) (vkC (ixG c 0 l).2):=by
 refine a50 mixed a6a Tryz.func151 d6S d6T (by kernel_rfl) (by simp) (a1p ?_)
 simp [e3c]
 refine a4N (d1a c l hl ho) ?_
 simp
def a0L (l:List OpV):Bool:=decide (l.length<=40)&&!decide (0<=(ixG ⟨[],[],0⟩ 0 l).1)
theorem b1M (l:List OpV) (hl:l.length<4611686018427387904) (ho:∀o∈l,okO o):PEv Tryz.prog 110 [Arg.enc l] (.c (.raw (.bool (a0L l)))):=by
 refine a0f mixed a6a Tryz.func110 e8u e8v (by kernel_rfl) (by simp) (by simp) ?_
 unfold a0L
 by_cases h:l.length<=40
 ·have h':(l.length:Int)<=40:=by omega
  simp [e23,h,h']
  refine a4N (d1b ⟨[],[],0⟩ l hl ho) ?_
  simp
 ·have h':¬(l.length:Int)<=40:=by omega
  simp [e23,h,h']
open Go Go.Proofs
abbrev iv (n:Int):AV:=.c (.raw (.int .i64 n))
abbrev bv (b:Bool):AV:=.c (.raw (.bool b))
theorem b6l (l:List OpV) (hl:l.length<4611686018427387904):PEv Tryz.prog 113 [.c (.sl .old false (a0a l))] (.c (.sl .old true (a0a l))):=by
 refine a0f mixed a6a Tryz.func113 e9n e9o (by kernel_rfl) (by simp) (by simp) ?_
 simp [e9m]
theorem c1E (l:List Int) (hl:l.length<4611686018427387904):PEv Tryz.prog 108 [.c (.sl .old false (a0a l))] (.c (.sl .old true (a0a l))):=by
 refine a0f mixed a6a Tryz.func108 e9h e9i (by kernel_rfl) (by simp) (by simp) ?_
 simp [e9g]
theorem c4J (l:List OpV) (o:OpV) (hl:l.length<1000000):PEv Tryz.prog 109 [.c (.sl .old false (a0a l)),.g (a0e .old o)] (.c (.nw 53 11 (a0a (l++[o])))):=by
 refine a0f mixed a6a Tryz.func109 e8s e8t (by kernel_rfl) (by simp) (by simp [a0e]) ?_
 simp [e22,a0e]
 refine a1x (args':=[.c (.sl .brw false (a0a l))]) ?_ (b6l l (by omega)) (by simp) (by simp) ?_
 ·simp
 simp [e22,a0e,a1l,a2G]
 exact ⟨by omega,by omega⟩
def a1g (s:Int):List OpV->Nat
 |[]=>0
 |o::r=>(if o.site=s then 1 else 0)+a1g s r
theorem a7I (s:Int) (l:List OpV) (o:OpV):a1g s (l++[o])=a1g s l+(if o.site=s then 1 else 0):=by
 induction l with
 |nil=>simp [a1g]
 |cons a r ih=>simp [a1g,ih,Nat.add_assoc]
theorem a7J (s:Int) (l:List OpV):a1g s l<=l.length:=by
 induction l with
 |nil=>simp [a1g]
 |cons a r ih=>simp only [a1g,List.length_cons];split<;>omega
theorem d1c (l:List OpV) (s:Int) (hl:l.length<1000000):PEv Tryz.prog 160 [Arg.enc l,Arg.enc s] (iv (1+a1g s l)):=by
 refine a0f mixed a6a Tryz.func160 e8D e8E (by kernel_rfl) (by simp) (by simp) ?_
 simp [e8C]
 refine vl (fun i:Nat=>i<=l.length) (fun i=>mkS [(1,iv s),(5,iv (1+a1g s (l.take i))),(8,.c (.sl .brw false (a0a l))),(9,iv l.length),(10,iv i)] []) (fun i=>l.length-i) 0 (by simp) (a0b rfl ?_) ?_
 ·simp [a1g]
 rintro i hi J hJ
 by_cases hlt:i<l.length
 ·have hw:IntKind.wrap .i64 ((i:Int)+1)=((i+1:Nat):Int):=by rw [a0d]<;>omega
  have ht:a1g s (l.take (i+1))=a1g s (l.take i)+(if l[i].site=s then 1 else 0):=by rw [<-a7I,List.take_append_getElem hlt]
  have hn:=a7J s (l.take i)
  have hn2:(l.take i).length<=i:=by simp;omega
  have hw2:IntKind.wrap .i64 (1+(a1g s (l.take i):Int)+1)=1+((a1g s (l.take i)+1:Nat):Int):=by rw [a0d]<;>omega
  simp [c3J,hlt,a0e,hw]
  refine ⟨fun e=>hJ (i+1) (by omega) (by omega) _ (a0b rfl ?_),fun e=>hJ (i+1) (by omega) (by omega) _ (a0b rfl ?_)⟩
  ·simp [hw,hw2,ht,e]
  ·simp [hw,ht,e]
 ·obtain rfl:i=l.length:=by omega
  simp [c3J]
open Go
variable {P:Program}
def d8z (P:Program) (fn:Func) (ret:AV) (e:AEx) (st:St):Prop:=∃v,a9c P v st/\c2B P fn ret e v
theorem e38 {C:Ctx P} {n:Nat} {K:St->Prop} {a:Act} {w:World} (h:a2h C n (fun st=>∃v,a9c P v st/\K v) a w):a2h C n K a w:=by
 obtain ⟨h1,ρ,st,hr,v,hs,hk⟩:=h
 rcases hs with rfl|⟨hn,hs⟩
 ·exact ⟨h1,ρ,_,hr,hk⟩
 ·obtain ⟨ρ',hr'⟩:=hs C (hr.nf hn) ρ a w hr
  exact ⟨h1,ρ',v,hr',hk⟩
theorem a2w (hm:P.follows .mixedOrders=true) {F:CT} (hF:a1k P F) {f:FuncId} {fn:Func} {s:SC} {args:List AV} {ret:AV} (hf:P.funcs[f]?=some fn) (hs:a0q fn.body s=some (unK s,true))
  (hok:a0M a0p fn 0=true) (hle:Nat.ble args.length fn.ntmps=true) (hret:∀c∈ret.flat,b0J c) (harg:∀x∈args,∀c∈x.flat,VOK c) (h:a2S P F s (d8z P fn ret) (a74 args)):PEv P f args ret:=by
 cases hb:fn.body with
 |none=>rw [hb] at hs;cases hs
 |some c=>
  rw [hb] at hs
  simp only [a0q,Option.map_some,Option.some.injEq,Prod.mk.injEq] at hs
  simp only [a0M,hb,Bool.and_eq_true,decide_eq_true_eq,bne_iff_ne,ne_eq] at hok
  obtain ⟨⟨hname,hcode⟩,_⟩:=hok
  have hle:=Nat.le_of_ble_eq_true hle
  refine ⟨⟨by simp [a4H,hf,hb,hname],hret,harg⟩,fun w hI G vs hsz hargs nm inj=>?_⟩
  refine calls_of_wp hf hb (Code.wp_mono (fun e a w' q=>?_) (a2E a0p (a9O hm) c fn.ntmps _ a0G (a74 args) _ w hcode (by simp;omega) (b7g hsz hargs) (b1e hF hs.1 hs.2 h)))
  have fin:a2h (Ctx.of w hI G) fn.ntmps (fun st=>∃res,c08 P st fn.results.toList=some res/\exV st.H res ret/\(a2u res.flat).Nodup) a w'->
    a.defers=[]/\∃v,(results fn a.tmps).run P w'=.ok v w'/\(∃v',Ending.returned v=.returned v'/\∃ρ,a2B (Ctx.of w hI G) (adH nm 0 ret.flat a0s) ρ w'/\
     a3u w' (Fr (Ctx.of w hI G) (adH nm 0 ret.flat a0s) ρ) (adH nm 0 ret.flat a0s) ρ (ret.ad nm) v'):=fun ⟨_,ρ,st,hr,res,g1,g2,g3⟩=>by
   obtain ⟨v,h1,h2⟩:=a5a hr g1
   obtain ⟨ρ',h3,h4⟩:=a73 hr h2 hret g2 g3 nm inj
   exact ⟨hr.a7T,v,h1,v,rfl,ρ',h3,h4⟩
  cases e with
  |normal=>exact fin (a2h.mono (e38 q) fun st hs=>hs.2)
  |ret=>exact fin (a2h.mono (e38 q) fun st hs=>hs.2)
  |exit id=>
   obtain ⟨_,_,_,_,hs⟩:=q
   obtain ⟨v,_,hs⟩:=hs
   exact hs.1.elim
  |_=>exact q.elim
theorem a0w {fn:Func} {ret:AV} {e:AEx} {st:St} (v:St) (h:a9c P v st) (hk:c2B P fn ret e v):d8z P fn ret e st:=⟨v,h,hk⟩
theorem d1d {fn:Func} {ret:AV} {e:AEx} {st st':St} (h:st=st'):d8z P fn ret e st=d8z P fn ret e st':=by rw [h]
attribute [congr] d1d
open Go Go.Proofs
theorem c0u (l:List Int) (n:Int) (hl:l.length<4611686018427387904):PEv Tryz.prog 112 [Arg.enc l,Arg.enc n] (iv (idxOf (fun x=>decide (n=x)) 0 l)):=by
 refine a0f mixed a6a Tryz.func112 e9k e9l (by kernel_rfl) (by simp) (by simp) ?_
 simp [e9j]
 refine vl (fun i:Nat=>i<=l.length/\idxOf (fun x=>decide (n=x)) i (l.drop i)=idxOf (fun x=>decide (n=x)) 0 l)
  (fun i=>mkS [(0,.c (.sl .brw false (a0a l))),(1,iv n),(7,iv l.length),(8,iv i)] []) (fun i=>l.length-i) 0 (by simp) (a0b rfl ?_) ?_
 ·simp
 rintro i ⟨hi,hx⟩ J hJ
 by_cases hlt:i<l.length
 ·have hw:IntKind.wrap .i64 ((i:Int)+1)=((i+1:Nat):Int):=by rw [a0d]<;>omega
  rw [List.drop_eq_getElem_cons hlt,idxOf] at hx
  simp [c3P,hlt,hw]
  refine ⟨fun e=>by rw [<-hx,if_pos (by simp [e])],fun e=>hJ (i+1) ⟨by omega,by rw [<-hx,if_neg (by simp [e])]⟩ (by omega) _ (a0b rfl ?_)⟩
  simp
 ·simp [c3P,hlt]
  rw [<-hx,List.drop_eq_nil_of_le (by omega)]
  rfl
theorem c4K (n:Int) (l:List Int):(0<=idxOf (fun x=>decide (n=x)) 0 l)↔n∈l:=by
 rw [a3T];simp
def b3F:List AV->Option (Prop×AV):=t2 (fun l _=>l.length<4611686018427387904) fun (l:List Int) (n:Int)=>iv (idxOf (fun x=>decide (n=x)) 0 l)
@[simp] theorem d8A {l:List AV}:b3F l=(t2 (fun l _=>l.length<4611686018427387904) fun (l:List Int) (n:Int)=>iv (idxOf (fun x=>decide (n=x)) 0 l)) l:=(rfl)
def FV2:CT:=(112,.pu b3F)::FV1
theorem c9a:a1k Tryz.prog FV2:=⟨a0P fun l n h=>c0u l n h,a6a⟩
@[simp] theorem d3L:a0c FV2 112=some (.pu b3F):=(rfl)
@[simp] theorem e39 {n:Nat} (h:(n==112)=false):a0c FV2 n=a0c FV1 n:=by
 simp only [Bool.or_eq_false_iff,beq_eq_false_iff_ne,ne_eq] at h
 simp [FV2,a0c,h]
theorem c0v (l:List Int) (n:Int) (hl:l.length<4611686018427387904):PEv Tryz.prog 105 [Arg.enc l,Arg.enc n] (bv (decide (n∈l))):=by
 refine a0f mixed c9a Tryz.func105 e9c e9d (by kernel_rfl) (by simp) (by simp) ?_
 simp [e9b,hl,c4K]
structure a0o where
 disk:a0k
 ops:List OpV
 ends:List Int
 deriving DecidableEq
def a0r (t:Tag) (r:a0o):List AC:=[.sl t false (a0a r.disk.safe),.sl t false (a0a r.disk.wait),.sl t false (a0a r.ops),.sl t false (a0a r.ends)]
def b3G:List AV->Option (Prop×AV):=t2 (fun l _=>l.length<4611686018427387904) fun (l:List Int) (n:Int)=>bv (decide (n∈l))
@[simp] theorem d8B {l:List AV}:b3G l=(t2 (fun l _=>l.length<4611686018427387904) fun (l:List Int) (n:Int)=>bv (decide (n∈l))) l:=(rfl)
def b3H:List AV->Option (Prop×AV):=t1 (fun l=>l.length<4611686018427387904/\∀o∈l,okO o) fun l:List OpV=>bv (a0L l)
@[simp] theorem d8C {l:List AV}:b3H l=(t1 (fun l=>l.length<4611686018427387904/\∀o∈l,okO o) fun l:List OpV=>bv (a0L l)) l:=(rfl)
def FV3:CT:=(105,.pu b3G)::(110,.pu b3H)::FV2
theorem d8D:a1k Tryz.prog FV3:=⟨a0P fun l n h=>c0v l n h,
 a0n fun l h=>b1M l h.1 h.2,c9a⟩
@[simp] theorem d3M:a0c FV3 105=some (.pu b3G):=(rfl)
@[simp] theorem d3N:a0c FV3 110=some (.pu b3H):=(rfl)
@[simp] theorem e4a {n:Nat} (h:(n==105||n==110)=false):a0c FV3 n=a0c FV2 n:=by
 simp only [Bool.or_eq_false_iff,beq_eq_false_iff_ne,ne_eq] at h
 simp [FV3,a0c,h]
def a04 (r:a0o) (x:a0i):a0o×Bool:=
 if x.join then if 8<=r.ends.length\/x.a0H∈r.ends then (r,false) else ({r with ends:=r.ends++[x.a0H]},true)
 else if (r.ends.length:Int)<x.op.site\/a0L (r.ops++[x.op])=false then (r,false) else ({r with ops:=r.ops++[x.op]},true)
def a98 (r:a0o):Prop:=r.disk.safe.length<1000000/\r.disk.wait.length<1000000/\r.ops.length<1000000/\r.ends.length<1000000/\∀o∈r.ops,okO o
theorem c0w (r:a0o) (x:a0i) (h:a98 r) (hx:okO x.op):PEv Tryz.prog 58 [.g (a0r .old r),.g (a0m .old x)] (.t [(true,a0r .old (a04 r x).1),(false,[.raw (.bool (a04 r x).2)])]):=by
 obtain ⟨h1,h2,h3,h4,h5⟩:=h
 refine a2w mixed d8D Tryz.func58 f8N f8O (by kernel_rfl) (by simp [a0r]) (by simp [a0r,a0m,a0e]) ?_
 generalize hR:a04 r x=R
 unfold a04 at hR
 have hl:r.ops.length+1<4611686018427387904/\∀o,o∈r.ops\/o=x.op->okO o:=⟨by omega,fun o hm=>by
  rcases hm with hm|rfl
  ·exact h5 o hm
  ·exact hx⟩
 cases c0:x.join
 ·rw [if_neg (by simp [c0])] at hR
  simp [s58,a0r,a0m,a0e,c0]
  refine a1x (args':=[.c (.sl .brw false (a0a r.ops)),.g (a0e .brw x.op)]) ?_ (c4J r.ops x.op h3) (by simp) (by simp) ?_
  ·simp [a0e]
  cases c1:decide ((r.ends.length:Int)<x.op.site)
  rotate_left
  ·rw [if_pos (.inl (of_decide_eq_true c1))] at hR
   subst hR
   simp [s58,a0e,c1]
   refine a0w (mkS [(4,.c (.pt (1,1) 0 0)),(5,bv false)] [.var (1,1) 29 (a0r .old r)]) (a0b rfl ?_) ?_<;>simp [a0r]
  cases c2:a0L (r.ops++[x.op])
  ·rw [if_pos (.inr c2)] at hR
   subst hR
   simp [s58,a0e,c1,c2]
   refine ⟨hl,a0w (mkS [(4,.c (.pt (1,1) 0 0)),(5,bv false)] [.var (1,1) 29 (a0r .old r)]) (a0b rfl ?_) ?_⟩<;>simp [a0r]
  ·rw [if_neg (by simp [c2];simpa using c1)] at hR
   subst hR
   simp [s58,a0e,c1,c2]
   refine ⟨hl,a0w (mkS [(4,.c (.pt (1,1) 0 0)),(5,bv true)] [.var (1,1) 29 (a0r .old {r with ops:=r.ops++[x.op]})]) (a0b rfl ?_) ?_⟩<;>simp [a0r]
 rw [if_pos c0] at hR
 cases c1:decide ((8:Int)<=r.ends.length)
 rotate_left
 ·rw [if_pos (.inl (by have:=of_decide_eq_true c1;omega))] at hR
  subst hR
  simp [s58,a0r,a0m,a0e,c0,c1]
  refine a0w (mkS [(4,.c (.pt (1,1) 0 0)),(5,bv false)] [.var (1,1) 29 (a0r .old r)]) (a0b rfl ?_) ?_<;>simp [a0r]
 have h4':r.ends.length<4611686018427387904:=by omega
 cases c2:decide (x.a0H∈r.ends)
 rotate_left
 ·rw [if_pos (.inr (of_decide_eq_true c2))] at hR
  subst hR
  simp [s58,a0r,a0m,a0e,c0,c1,c2,h4']
  refine a0w (mkS [(4,.c (.pt (1,1) 0 0)),(5,bv false)] [.var (1,1) 29 (a0r .old r)]) (a0b rfl ?_) ?_<;>simp [a0r]
 rw [if_neg (by have:=of_decide_eq_false c1;have:=of_decide_eq_false c2;rintro (h|h)<;>first|omega|contradiction)] at hR
 subst hR
 simp [s58,a0r,a0m,a0e,c0,c1,c2,h4']
 refine a1x (args':=[.c (.sl .brw false (a0a r.ends))]) ?_ (c1E r.ends (by omega)) (by simp) (by simp) ?_
 ·simp
 simp [s58]
 refine ⟨⟨by omega,by omega⟩,?_⟩
 refine a0w (mkS [(4,.c (.pt (1,1) 0 0)),(5,bv true)] [.var (1,1) 29 (a0r .old {r with ends:=r.ends++[x.a0H]})]) (a0b rfl ?_) ?_<;>simp [a0r,a1l,a2G]
open Go Go.Proofs
open Go
open Go Go.Proofs
def c7I:List AV->Option (Prop×AV):=t3 (fun (d:a0k) (n:Int) (e:a0i)=>d.safe.length<1000000/\d.wait.length<1000000/\e.op.text.length<1000000/\e.op.gone.length<1000000/\n<9223372036854775808) fun (d:a0k) (n:Int) (e:a0i)=>a2l (a1v d n e)
def d1e:List AV->Option (Prop×AV):=t2 (fun (d:a0k) _=>d.safe.length<1000000/\d.wait.length<1000000) fun (d:a0k) (n:Int)=>a1j (a1G d n)
def FE3:CT:=(107,.pu c7I)::(76,.pu d1e)::FE2
theorem c4L:a1k Tryz.prog FE3:=⟨a4L fun d n e h=>b6k d n e h.1 h.2.1 h.2.2.1 h.2.2.2.1 h.2.2.2.2,
 a0P fun d n h=>c0t d n h.1 h.2,d8y⟩
@[simp] theorem e4b {n:Nat} (h:(n==107||n==76)=false):a0c FE3 n=a0c FE2 n:=by
 simp only [Bool.or_eq_false_iff,beq_eq_false_iff_ne,ne_eq] at h
 simp [FE3,a0c,h]
open Go Go.Proofs
theorem d1f {m:Nat} (h:m<9223372036854775808):d5J .i64 (m:Int) 127=((m%128:Nat):Int):=by
 have h1:((BitVec.ofInt 64 (m:Int)) &&&(BitVec.ofInt 64 127)).toNat=m%128:=by
  rw [BitVec.toNat_and]
  have e1:(BitVec.ofInt 64 (m:Int)).toNat=m:=by simp;omega
  have e2:(BitVec.ofInt 64 127).toNat=2^7-1:=by decide
  rw [e1,e2,Nat.and_two_pow_sub_one_eq_mod]
 show IntKind.wrap .i64 (((BitVec.ofInt 64 (m:Int)) &&&(BitVec.ofInt 64 127)).toNat:Int)=_
 rw [h1]
 exact a0d (by omega) (by omega)
theorem f3j {r:Nat} (h:r<128):ior .i64 (r:Int) 128=((r+128:Nat):Int):=by
 have:=c38 (acc:=r) (x:=1) (i:=1) (by omega) (by omega) (by omega)
 simpa using this
theorem c4M (n:Nat) (hn:n<9223372036854775808):PEv Tryz.prog 171 [.c (.raw (.int .i64 n))] (.c (.str (a0h n))):=by
 refine a0f mixed (F:=[]) trivial Tryz.func171 f0M f0N (by kernel_rfl) (by simp) (by simp) ?_
 simp [f0L]
 refine a1E (fun q st=>∃(k m:Nat) (L:List UInt8) (c:AC),q=k/\k<=9/\m<128^k/\L++a1d k m=a0h n/\st.s 0=.c (.raw (.int .i64 m))/\st.s 3=.c c/\a9h st.H 5 1 0 c L/\L.length+k<=9/\a0E st.H st.T) 9
  ⟨9,n,[],.raw (.slice none 0 0),rfl,by omega,by omega,rfl,by simp,by simp,a9h.nil,by simp,by simp;exact a1n.mono (by omega)⟩ ?_
 rintro q st ⟨k,m,L,c,hq,hk,hm,hL,k0,k3,hc,hl,hf⟩
 have hfu:∀k d,st.T<=k->st.H (k,d)=.a0g:=hf
 have hm9:m<9223372036854775808:=Nat.lt_of_lt_of_le hm (Nat.le_trans (Nat.pow_le_pow_right (by omega) hk) (by decide))
 by_cases hlt:128<=m
 ·have hlt':(128:Int)<=m:=by omega
  cases k with
  |zero=>simp at hm;omega
  |succ k=>
   have c1:=d1f hm9
   have c2:(m:Int).fdiv (2^7)=((m/128:Nat):Int):=by
    rw [Int.fdiv_eq_ediv_of_nonneg _ (by exact Int.pow_nonneg (by omega))];omega
   simp only [show (2:Int)^7=128 from rfl] at c2
   have b:IntKind.bits .i64=64:=rfl
   obtain ⟨r,hr,hr2⟩:∃r:Nat,m%128=r/\r<128:=⟨m%128,rfl,by omega⟩
   obtain ⟨p,hp⟩:∃p:Nat,m/128=p:=⟨m/128,rfl⟩
   rw [hr] at c1
   rw [hp] at c2
   have e1:=f3j hr2
   obtain ⟨y,hy⟩:∃y:Nat,r+128=y:=⟨_,rfl⟩
   rw [hy] at e1
   have e2:IntKind.wrap .u8 (y:Int)=y:=a7A (by omega) (by omega)
   have hm2:p<128^k:=by rw [Nat.pow_succ] at hm;omega
   have hL2:(L++[UInt8.ofNat y])++a1d k p=a0h n:=by rw [<-hL,a5s hlt,hr,hp,hy];simp
   rcases hc with ⟨rfl,rfl⟩|⟨id,rfl,b0H,hid⟩
   ·simp (maxDischargeDepth:=8) [b53,k0,k3,hlt',hfu,b,c1,c2,e1,e2,Nat.le_add_right_of_le]
    refine ⟨k,by omega,by omega,p,hm2,[UInt8.ofNat y],by simpa using hL2,rfl,a9h.so rfl (Nat.zero_le _) ?_,(by have:=hl;simp at this ⊢;omega),?_⟩
    ·simp [b1s (y:Int) (by omega) (by omega)]
    ·repeat' (first|exact hf.mono (by first|omega|(simp<;>omega))|(refine a0E.set' ?_ (by first|omega|(simp<;>omega))))
   ·obtain ⟨f1,f2,f3⟩:=hf.arr hid
    simp (maxDischargeDepth:=8) [b53,k0,k3,hlt',hfu,b,c1,c2,e1,e2,f1,f2,hid,Nat.le_add_right_of_le]
    refine ⟨⟨by omega,by omega⟩,k,by omega,by omega,p,hm2,L++[UInt8.ofNat y],hL2,rfl,a9h.so (by simp) (Nat.zero_le _) ?_,by simp;omega,?_⟩
    ·simp [a6U L (y:Int) (by omega) (by omega)]
    ·repeat' (first|exact hf.mono (by first|omega|(simp<;>omega))|(refine a0E.set' ?_ (by first|omega|(simp<;>omega))))
 ·have hlt':¬(128:Int)<=m:=by omega
  have e2:IntKind.wrap .u8 (m:Int)=m:=a7A (by omega) (by omega)
  rw [a5t (by omega)] at hL
  rcases hc with ⟨rfl,rfl⟩|⟨id,rfl,b0H,hid⟩
  ·simp (maxDischargeDepth:=8) [b53,k0,k3,hlt',hfu,e2,Nat.le_add_right_of_le]
   simpa using hL
  ·obtain ⟨f1,f2,f3⟩:=hf.arr hid
   simp (maxDischargeDepth:=8) [b53,k0,k3,hlt',hfu,e2,f1,f2,hid,List.take_of_length_le,hL,Nat.le_add_right_of_le]
   omega
theorem b7U (s:List UInt8) (hs:s.length<4611686018427387904):PEv Tryz.prog 209 [.c (.str s)] (.c (.raw (.int .u32 (ofN s)))):=by
 refine a0f mixed (F:=[]) trivial Tryz.func209 f1A f1B (by kernel_rfl) (by simp) (by simp) ?_
 simp [f1z]
 refine a1E (fun q st=>∃(i h:Nat),i<=s.length/\q=s.length-i/\h<4294967291/\st.s 0=.c (.str s)/\st.s 3=.c (.raw (.int .u64 h))/\st.s 4=.c (.raw (.int .i64 i))/\ofF h (s.drop i)=ofN s) s.length
  ⟨0,1,by omega,rfl,by omega,by simp,by simp,by simp,rfl⟩ ?_
 rintro q st ⟨i,h,hi,rfl,hh,k0,k3,k4,hT⟩
 by_cases hlt:i<s.length
 ·have hlt':(i:Int)<s.length:=by omega
  have hb:=s[i].toNat_lt
  rw [c0k hlt] at hT
  have c1:=c0j s i hlt
  obtain ⟨b,hb2,hb3⟩:∃b:Nat,s[i].toNat=b/\b<256:=⟨_,rfl,hb⟩
  rw [hb2] at c1 hT
  have c2:IntKind.wrap .u64 ((h:Int)*263)=(h:Int)*263:=by rw [a2I];omega
  have c3:IntKind.wrap .u64 (b:Int)=b:=by rw [a2I];omega
  have c4:IntKind.wrap .u64 ((h:Int)*263+b)=(h:Int)*263+b:=by rw [a2I];omega
  have c5:IntKind.wrap .u64 ((h:Int)*263+b+7)=(h:Int)*263+b+7:=by rw [a2I];omega
  obtain ⟨z,hz,hz2⟩:∃z:Nat,(h*263+b+7)%4294967291=z/\z<4294967291:=⟨_,rfl,Nat.mod_lt _ (by omega)⟩
  have c6:((h:Int)*263+b+7).tmod 4294967291=z:=by rw [Int.tmod_eq_emod_of_nonneg (by omega)];omega
  have e2:IntKind.wrap .i64 ((i:Int)+1)=(i:Int)+1:=by rw [a0d]<;>omega
  rw [hz] at hT
  simp [c3X,k0,k3,k4,hlt,c1,c2,c3,c4,c5,c6,e2]
  exact ⟨s.length-(i+1),by omega,i+1,by omega,rfl,z,hz2,rfl,rfl,hT⟩
 ·have:i=s.length:=by omega
  subst this
  have hr:h=ofN s:=by rw [<-hT];simp [ofF]
  have c7:IntKind.wrap .u32 (h:Int)=h:=by rw [b1t];omega
  rw [hr] at c7 k3
  simp [c3X,k0,k3,k4,c7]
def b3I:List AV->Option (Prop×AV):=t1 (fun n=>0<=n/\n<9223372036854775808) fun n:Int=>.c (.str (a0h n.toNat))
@[simp] theorem d8E {l:List AV}:b3I l=(t1 (fun n=>0<=n/\n<9223372036854775808) fun n:Int=>.c (.str (a0h n.toNat))) l:=(rfl)
def b3J:List AV->Option (Prop×AV):=t1 (fun s=>s.length<4611686018427387904) fun s:List UInt8=>.c (.raw (.int .u32 (ofN s)))
@[simp] theorem d8F {l:List AV}:b3J l=(t1 (fun s=>s.length<4611686018427387904) fun s:List UInt8=>.c (.raw (.int .u32 (ofN s)))) l:=(rfl)
def FG0:CT:=(171,.pu b3I)::(209,.pu b3J)::FE3
theorem c4N:a1k Tryz.prog FG0:=⟨a0n fun n h=>by have:=c4M n.toNat (by omega);rwa [Int.toNat_of_nonneg h.1] at this,
 a0n fun s h=>b7U s h,c4L⟩
@[simp] theorem d3O:a0c FG0 171=some (.pu b3I):=(rfl)
@[simp] theorem d3P:a0c FG0 209=some (.pu b3J):=(rfl)
@[simp] theorem e4c {n:Nat} (h:(n==171||n==209)=false):a0c FG0 n=a0c FE3 n:=by
 simp only [Bool.or_eq_false_iff,beq_eq_false_iff_ne,ne_eq] at h
 simp [FG0,a0c,h]
theorem c1F (s:List UInt8) (hs:s.length<140737488355328):PEv Tryz.prog 202 [.c (.str s)] (.c (.str (a0h s.length++s))):=by
 refine a0f mixed c4N Tryz.func202 f1t f1u (by kernel_rfl) (by simp) (by simp) ?_
 have:=a6o s.length
 simp [f1s,show s.length<9223372036854775808 by omega]
 omega
theorem b7V (s:List UInt8) (hs:s.length<4611686018427387904):PEv Tryz.prog 184 [.c (.str s)] (.c (.str (a1e s))):=by
 refine a0f mixed c4N Tryz.func184 f0V f0W (by kernel_rfl) (by simp) (by simp) ?_
 have hb:=a6o s.length
 by_cases h7:700<s.length
 ·have h7':(700:Int)<s.length:=by omega
  simp [e3f,h7',a1e,h7]
 ·have h7':¬(700:Int)<s.length:=by omega
  have l1:(a2H (ofN (a0h s.length++s))).length=4:=rfl
  have hlt4:=c0l (a0h s.length++s)
  rw [a1e,if_neg h7]
  generalize hh:ofN (a0h s.length++s)=h at *
  have c:∀k:Nat,(h:Int).fdiv (2^k)=((h/2^k:Nat):Int):=fun k=>by
   rw [Int.fdiv_eq_ediv_of_nonneg _ (by exact Int.pow_nonneg (by omega))]
   push_cast
   rfl
  have w8:∀n:Nat,IntKind.wrap .u8 (n:Int)=((n%256:Nat):Int):=fun n=>by rw [b55 (by omega)];omega
  have u8:∀n:Nat,UInt8.ofNat (n%256)=UInt8.ofNat n:=fun n=>by
   apply UInt8.toNat_inj.1
   simp
  have b:IntKind.bits .u32=32:=rfl
  have c1:=c 24
  have c2:=c 16
  have c3:=c 8
  simp only [show (2:Nat)^24=16777216 from rfl,show (2:Nat)^16=65536 from rfl,show (2:Nat)^8=256 from rfl,show (2:Int)^24=16777216 from rfl,show (2:Int)^16=65536 from rfl,show (2:Int)^8=256 from rfl] at c1 c2 c3
  obtain ⟨x1,h1⟩:∃x,h/16777216=x:=⟨_,rfl⟩
  obtain ⟨x2,h2⟩:∃x,h/65536=x:=⟨_,rfl⟩
  obtain ⟨x3,h3⟩:∃x,h/256=x:=⟨_,rfl⟩
  rw [h1] at c1
  rw [h2] at c2
  rw [h3] at c3
  have v0:=w8 h
  have v1:=w8 x1
  have v2:=w8 x2
  have v3:=w8 x3
  obtain ⟨y0,g0⟩:∃x,h%256=x:=⟨_,rfl⟩
  obtain ⟨y1,g1⟩:∃x,x1%256=x:=⟨_,rfl⟩
  obtain ⟨y2,g2⟩:∃x,x2%256=x:=⟨_,rfl⟩
  obtain ⟨y3,g3⟩:∃x,x3%256=x:=⟨_,rfl⟩
  rw [g0] at v0
  rw [g1] at v1
  rw [g2] at v2
  rw [g3] at v3
  have n1:s.length<9223372036854775808:=by omega
  have n2:(a0h s.length).length+s.length<4611686018427387904:=by omega
  simp [e3f,h7',hh,b,c1,c2,c3,v0,v1,v2,v3,n1,n2]
  rw [a2H,h1,h2,h3,<-u8 x1,<-u8 x2,<-u8 x3,<-u8 h,g0,g1,g2,g3]
  simp
  omega
open Go Go.Proofs
def b3K:List AV->Option (Prop×AV):=t1 (fun s=>s.length<140737488355328) fun s:List UInt8=>.c (.str (a0h s.length++s))
@[simp] theorem d8G {l:List AV}:b3K l=(t1 (fun s=>s.length<140737488355328) fun s:List UInt8=>.c (.str (a0h s.length++s))) l:=(rfl)
def b3L:List AV->Option (Prop×AV):=t1 (fun s=>s.length<4611686018427387904) fun s:List UInt8=>.c (.str (a1e s))
@[simp] theorem d8H {l:List AV}:b3L l=(t1 (fun s=>s.length<4611686018427387904) fun s:List UInt8=>.c (.str (a1e s))) l:=(rfl)
def FG1:CT:=(202,.pu b3K)::(184,.pu b3L)::FG0
theorem c9b:a1k Tryz.prog FG1:=⟨a0n fun s h=>c1F s h,
 a0n fun s h=>b7V s h,c4N⟩
@[simp] theorem d3Q:a0c FG1 202=some (.pu b3K):=(rfl)
@[simp] theorem d3R:a0c FG1 184=some (.pu b3L):=(rfl)
@[simp] theorem e4d {n:Nat} (h:(n==202||n==184)=false):a0c FG1 n=a0c FG0 n:=by
 simp only [Bool.or_eq_false_iff,beq_eq_false_iff_ne,ne_eq] at h
 simp [FG1,a0c,h]
theorem c1G (e:a0F) (h:okE e):PEv Tryz.prog 201 [Arg.enc e] (.c (.str (a1V e))):=by
 refine a0f mixed c9b Tryz.func201 f1q f1r (by kernel_rfl) (by simp) (by simp) ?_
 obtain ⟨⟨a1,a2⟩,⟨b1,b2⟩,⟨c1,c2⟩⟩:=h
 have l1:=a0B e.site.toNat
 have l2:=a0B e.seq.toNat
 have l3:=a0B e.i.toNat
 have m1:(a0h e.site.toNat).length+(a0h e.seq.toNat).length<=9223372036854775807:=by omega
 have m2:(a0h e.site.toNat).length+((a0h e.seq.toNat).length+(a0h e.i.toNat).length)<=9223372036854775807:=by omega
 have m3:(a0h e.site.toNat).length+(a0h e.seq.toNat).length+(a0h e.i.toNat).length<=9223372036854775807:=by omega
 simp [f1p,a1,a2,b1,b2,c1,c2,m1,m2,m3,a1V,a2d]
def b3M:List AV->Option (Prop×AV):=t1 okE fun e:a0F=>.c (.str (a1V e))
@[simp] theorem d8I {l:List AV}:b3M l=(t1 okE fun e:a0F=>.c (.str (a1V e))) l:=(rfl)
def FG2:CT:=(201,.pu b3M)::FG1
theorem c9c:a1k Tryz.prog FG2:=⟨a0n fun e h=>c1G e h,c9b⟩
@[simp] theorem d3S:a0c FG2 201=some (.pu b3M):=(rfl)
@[simp] theorem e4e {n:Nat} (h:(n==201)=false):a0c FG2 n=a0c FG1 n:=by
 simp only [Bool.or_eq_false_iff,beq_eq_false_iff_ne,ne_eq] at h
 simp [FG2,a0c,h]
theorem c7J (o:OpV) (h:okP o):PEv Tryz.prog 172 [Arg.enc o] (.c (.str (a05 o))):=by
 refine a0f mixed c9c Tryz.func172 f0O f0P (by kernel_rfl) (by simp) (by simp [a0e]) ?_
 have hl1:=a0B o.site.toNat
 have hl2:=a0B o.seq.toNat
 have hl3:=a0B o.kind.toNat
 have hl4:=a5f o.after
 have hl5:=a0B o.text.length
 have hl6:=a0B o.gone.length
 have hl7:=a0B o.of_.toNat
 have hl8:=a0B o.num.toNat
 have hl9:=a0B o.gen.toNat
 have ht:=h.text
 have hg:=h.len
 obtain ⟨a1,a2⟩:=h.site
 obtain ⟨b1,b2⟩:=h.seq
 obtain ⟨c1,c2⟩:=h.kind
 obtain ⟨d1,d2⟩:=h.of_
 obtain ⟨e1,e2⟩:=h.num
 obtain ⟨f1,f2⟩:=h.gen
 have e7:=h.after
 have e9:a1V {site:=o.after.site,seq:=o.after.seq,i:=o.after.i}=a1V o.after:=rfl
 have g1:o.text.length<140737488355328:=by omega
 have g2:o.gone.length<9223372036854775808:=by omega
 have hh:a4c o=a0h o.site.toNat++(a0h o.seq.toNat++a0h o.kind.toNat):=by simp [a4c,a2d]
 have hhl:(a4c o).length<=30:=by rw [hh];simp only [List.length_append];omega
 have m1:(a0h o.site.toNat).length+(a0h o.seq.toNat).length<=9223372036854775807:=by omega
 have m2:(a0h o.site.toNat).length+((a0h o.seq.toNat).length+(a0h o.kind.toNat).length)<=9223372036854775807:=by omega
 cases c:decide (o.kind=2)
 rotate_left
 ·have e10:a05 o=a4c o++a2d [o.of_,o.num,o.gen]:=by rw [a05,if_pos (of_decide_eq_true c)]
  have m3:(a0h o.site.toNat).length+((a0h o.seq.toNat).length+((a0h o.kind.toNat).length+(a0h o.of_.toNat).length))<=9223372036854775807:=by omega
  have m4:(a0h o.site.toNat).length+((a0h o.seq.toNat).length+((a0h o.kind.toNat).length+((a0h o.of_.toNat).length+(a0h o.num.toNat).length)))<=9223372036854775807:=by omega
  have m5:(a0h o.site.toNat).length+((a0h o.seq.toNat).length+((a0h o.kind.toNat).length+((a0h o.of_.toNat).length+((a0h o.num.toNat).length+(a0h o.gen.toNat).length))))<=9223372036854775807:=by omega
  simp [e3e,a0e,a1,a2,b1,b2,c1,c2,d1,d2,e1,e2,f1,f2,c,m1,m2,m3,m4,m5,e10,hh,a2d]
  try omega
 ·have e10:a05 o=a4c o++b6a o++o.gone.flatMap a1V:=by rw [a05,if_neg (of_decide_eq_false c)]
  have m3:(a0h o.site.toNat).length+((a0h o.seq.toNat).length+((a0h o.kind.toNat).length+(a1V o.after).length))<=9223372036854775807:=by omega
  have m4:(a0h o.site.toNat).length+((a0h o.seq.toNat).length+((a0h o.kind.toNat).length+((a1V o.after).length+((a0h o.text.length).length+o.text.length))))<=9223372036854775807:=by omega
  have m5:(a0h o.site.toNat).length+((a0h o.seq.toNat).length+((a0h o.kind.toNat).length+((a1V o.after).length+((a0h o.text.length).length+(o.text.length+(a0h o.gone.length).length)))))<=9223372036854775807:=by omega
  simp [e3e,a0e,a1,a2,b1,b2,c1,c2,e7,e9,g1,g2,c,m1,m2,m3,m4,m5]
  refine ⟨by omega,by omega,by omega,by omega,by omega,?_⟩
  have lm:(a4c o++b6a o).length<=1000200:=by simp [hh,b6a,a2d];omega
  refine a1E (fun n st=>∃i:Nat,i<=o.gone.length/\n=o.gone.length-i/\st.s 1=.c (.pt (0,1) 0 0)/\st.H (0,1)=.arr 53 11 false [a0e .brw o]/\st.s 3=.c (.str (a4c o++b6a o++(o.gone.take i).flatMap a1V))/\st.s 4=.c (.raw (.int .i64 i))/\a0E st.H st.T) o.gone.length ?_ ?_
  ·refine ⟨0,by omega,by omega,?_⟩
   simp [hh,b6a,a2d,a0e]
   (repeat' (first|exact a1n.mono (Nat.zero_le _)|(refine a0E.set' ?_ (by simp))))
  rintro n st ⟨i,hi,rfl,h1,hH,h3,h4,hf⟩
  have hfu:∀k d,st.T<=k->st.H (k,d)=.a0g:=hf
  by_cases hlt:i<o.gone.length
  ·have hlt':(i:Int)<o.gone.length:=by omega
   have hw:IntKind.wrap .i64 ((i:Int)+1)=((i+1:Nat):Int):=by rw [a0d]<;>omega
   have hg:okE o.gone[i]:=h.gone _ (List.getElem_mem hlt)
   have hg':a1V {site:=o.gone[i].site,seq:=o.gone[i].seq,i:=o.gone[i].i}=a1V o.gone[i]:=rfl
   have hg2:okE {site:=o.gone[i].site,seq:=o.gone[i].seq,i:=o.gone[i].i}:=hg
   have g1:=b3g (o.gone.take i)
   rw [List.length_take] at g1
   have g2:=a5f o.gone[i]
   generalize hX:a4c o++b6a o++(o.gone.take i).flatMap a1V=X at h3
   have hXl:X.length+(a1V o.gone[i]).length<=9223372036854775807:=by rw [<-hX,List.length_append];omega
   simp [c3V,h1,hH,a0e,h3,h4,hlt,hlt',hw,hfu,hg2,hg',hXl]
   refine ⟨_,?_,i+1,by omega,rfl,?_,rfl,?_⟩
   ·omega
   ·rw [<-hX,<-List.take_append_getElem hlt,List.flatMap_append]
    simp
   ·repeat' (first|exact hf.mono (by first|omega|(simp<;>omega))|(refine a0E.set' ?_ (by first|omega|(simp<;>omega))))
  ·have:i=o.gone.length:=by omega
   subst this
   simp [c3V,h1,hH,a0e,h3,h4,e10]
def b3N:List AV->Option (Prop×AV):=t1 okP fun o:OpV=>.c (.str (a05 o))
@[simp] theorem d8J {l:List AV}:b3N l=(t1 okP fun o:OpV=>.c (.str (a05 o))) l:=(rfl)
def FG3:CT:=(172,.pu b3N)::FG2
theorem c4O:a1k Tryz.prog FG3:=⟨a0n fun o h=>c7J o h,c9c⟩
@[simp] theorem d3T:a0c FG3 172=some (.pu b3N):=(rfl)
@[simp] theorem e4f {n:Nat} (h:(n==172)=false):a0c FG3 n=a0c FG2 n:=by
 simp only [Bool.or_eq_false_iff,beq_eq_false_iff_ne,ne_eq] at h
 simp [FG3,a0c,h]
theorem b7W (e:a0i) (h:okF e):PEv Tryz.prog 186 [Arg.enc e] (.c (.str (a0V e))):=by
 refine a0f mixed c4O Tryz.func186 f0Z f00 (by kernel_rfl) (by simp) (by simp [a0m,a0e]) ?_
 obtain ⟨h1,h2⟩:=h
 cases c:e.join
 ·have ho:=h2 c
  have hl:=a4j ho
  have hb:=a0B 0
  have e1:a0V e=a0h 0++a05 e.op:=by simp [a0V,c]
  have l1:(a0h 0).length+(a05 e.op).length<=9223372036854775807:=by omega
  simp [e3g,a0m,a0e,c,ho,l1,e1]
 ·obtain ⟨ho,ho'⟩:=h1 c
  have hb:=a0B 1
  have hl:=a0B e.a0H.toNat
  have e1:a0V e=a0h 1++a0h e.a0H.toNat:=by simp [a0V,c]
  have l1:(a0h 1).length+(a0h e.a0H.toNat).length<=9223372036854775807:=by omega
  simp [e3g,a0m,a0e,c,ho,ho',l1,e1]
def b3O:List AV->Option (Prop×AV):=t1 okF fun e:a0i=>.c (.str (a0V e))
@[simp] theorem d8K {l:List AV}:b3O l=(t1 okF fun e:a0i=>.c (.str (a0V e))) l:=(rfl)
def FG4:CT:=(186,.pu b3O)::FG3
theorem c9d:a1k Tryz.prog FG4:=⟨a0n fun e h=>b7W e h,c4O⟩
@[simp] theorem d3U:a0c FG4 186=some (.pu b3O):=(rfl)
@[simp] theorem e4g {n:Nat} (h:(n==186)=false):a0c FG4 n=a0c FG3 n:=by
 simp only [Bool.or_eq_false_iff,beq_eq_false_iff_ne,ne_eq] at h
 simp [FG4,a0c,h]
theorem c1H {e:a0i} (h:okF e):(a0V e).length<=50000000:=by
 obtain ⟨h1,h2⟩:=h
 unfold a0V
 cases c:e.join
 ·have hl:=a4j (h2 c)
  have hb:=a0B 0
  simp;omega
 ·have hb:=a0B 1
  have hl:=a0B e.a0H.toNat
  simp;omega
def a29 (e:a0i):List UInt8×Bool:=if 700<(a0V e).length then ([],false) else (a8n (a1e (a0V e)),true)
def a11 (e:a0i):AV:=.t [(false,[.str (a29 e).1]),(false,[.raw (.bool (a29 e).2)])]
theorem b7X (e:a0i) (h:okF e):PEv Tryz.prog 146 [Arg.enc e] (a11 e):=by
 refine a0f mixed c9d Tryz.func146 e93 e94 (by kernel_rfl) (by simp [a11]) (by simp [a0m,a0e]) ?_
 have hl:=c1H h
 by_cases h7:700<(a0V e).length
 ·have h7':(700:Int)<(a0V e).length:=by omega
  have e2:a29 e=([],false):=by rw [a29,if_pos h7]
  simp [e3a,a0m,a0e,h,h7',a11,e2]
 ·have h7':¬(700:Int)<(a0V e).length:=by omega
  have e2:a29 e=(a8n (a1e (a0V e)),true):=by rw [a29,if_neg h7]
  have l2:(a0V e).length<4611686018427387904:=by omega
  have hs:(a1e (a0V e)).length<=800:=by
   have hb:=a6o (a0V e).length
   have l1:(a2H (ofN (a0h (a0V e).length++a0V e))).length=4:=rfl
   rw [a1e,if_neg h7]
   simp only [List.length_append]
   omega
  rw [show a8n (a1e (a0V e))=a1e (a0V e)++List.replicate (b1I (a1e (a0V e)).length) 0 from rfl] at e2
  obtain ⟨n,hn⟩:∃n,(a1e (a0V e)).length=n:=⟨_,rfl⟩
  rw [hn] at e2 hs
  have w1:IntKind.wrap .i64 ((n:Int)+32)=(n:Int)+32:=by rw [a0d]<;>omega
  have w2:IntKind.wrap .i64 ((n:Int)+32-1)=(n:Int)+31:=by rw [a0d]<;>omega
  have d1:((n:Int)+31).tdiv 32=(((n+31)/32:Nat):Int):=by rw [Int.tdiv_eq_ediv_of_nonneg (by omega)];omega
  obtain ⟨q,hq,hq2⟩:∃q,(n+31)/32=q/\b1I n=q*32-n/\n<=q*32/\q<=100:=⟨_,rfl,by unfold b1I;omega,by omega,by omega⟩
  obtain ⟨hq2,hq3,hq4⟩:=hq2
  rw [hq] at d1
  have w3:IntKind.wrap .i64 (q:Int)=q:=by rw [a0d]<;>omega
  have w4:IntKind.wrap .i64 ((q:Int)*32)=(q:Int)*32:=by rw [a0d]<;>omega
  have w5:IntKind.wrap .i64 ((q:Int)*32-n)=((b1I n:Nat):Int):=by rw [a0d]<;>omega
  have hp:b1I n<=100:=by unfold b1I;omega
  have hp':b1I n<=1000000:=by omega
  simp [e3a,a0m,a0e,h,h7',a11,e2,l2,hn,w1,w2,w3,w4,w5,d1,hp']
  omega
def a2N (e:a0i):AV:=if a0J e=true then a3d e else .t [(false,[.str []]),(false,[.raw (.int .i64 1)])]
theorem a7K (e:a0i) (h1:e.op.text.length<1000000) (h2:e.op.gone.length<1000000):PEv Tryz.prog 131 [Arg.enc e] (a2N e):=by
 have ho:okO e.op:=⟨by omega,by omega⟩
 unfold a2N
 cases c:a0J e
 ·refine a0f mixed c4L Tryz.func131 d6Q d6R (by kernel_rfl) (by simp) (by simp [a0m,a0e]) ?_
  simp [e28,a0m,a0e,ho,c]
 ·refine a0f mixed c4L Tryz.func131 d6Q d6R (by kernel_rfl) (by simp [a3d]) (by simp [a0m,a0e]) ?_
  have hf:=a3L c h1 h2
  simp [e28,a0m,a0e,ho,c,hf,a3d]
def b3P:List AV->Option (Prop×AV):=t1 okF fun e:a0i=>a11 e
@[simp] theorem d8L {l:List AV}:b3P l=(t1 okF fun e:a0i=>a11 e) l:=(rfl)
def c7K:List AV->Option (Prop×AV):=t1 (fun e=>e.op.text.length<1000000/\e.op.gone.length<1000000) fun e:a0i=>a2N e
def FG5:CT:=(146,.pu b3P)::(131,.pu c7K)::FG4
theorem c9e:a1k Tryz.prog FG5:=⟨a0n fun e h=>b7X e h,
 a0n fun e h=>a7K e h.1 h.2,c9d⟩
@[simp] theorem d3V:a0c FG5 146=some (.pu b3P):=(rfl)
@[simp] theorem e4h {n:Nat} (h:(n==146||n==131)=false):a0c FG5 n=a0c FG4 n:=by
 simp only [Bool.or_eq_false_iff,beq_eq_false_iff_ne,ne_eq] at h
 simp [FG5,a0c,h]
open Go Go.Proofs
theorem a6b:∀(k i n:Nat),0<i->n<128^i->(a1d k n).length<=i
 |0,i,n,hi,hn=>by simp [a1d];omega
 |k+1,i,n,hi,hn=>by
  by_cases h:n<128
  ·rw [a5t h];simp;omega
  ·rw [a5s (by omega)]
   cases i with
   |zero=>omega
   |succ i=>
    have:0<i:=by
     rcases Nat.eq_zero_or_pos i with h0|h0
     ·subst h0;simp at hn;omega
     ·exact h0
    have:=a6b k i (n/128) this (by rw [Nat.pow_succ] at hn;omega)
    simp;omega
def c4P (s:List UInt8) (i acc:Nat):Prop:=∀m,(0<m\/i=0)->a1d 9 (acc+128^i*m)=s.take i++a1d (9-i) m
theorem d1g (s:List UInt8):c4P s 0 0:=fun m _=>by simp
theorem c1I {s:List UInt8} {i acc x:Nat} (h:c4P s i acc) (hi:i<s.length) (h9:i<8) (hx:s[i].toNat%128=x) (hge:128<=s[i].toNat):c4P s (i+1) (acc+x*128^i):=fun m hm=>by
 have hm:0<m:=by rcases hm with h|h<;>omega
 have h1:=h (x+128*m) (.inl (by omega))
 have e1:acc+x*128^i+128^(i+1)*m=acc+128^i*(x+128*m):=by
  rw [Nat.pow_succ,Nat.mul_add,Nat.mul_assoc,Nat.mul_comm x]
  omega
 have hb:=s[i].toNat_lt
 rw [e1,h1,show 9-i=(9-(i+1))+1 by omega,a5s (by omega),show (x+128*m)/128=m by omega,show (x+128*m)%128+128=s[i].toNat by omega,
  <-List.take_append_getElem hi]
 simp only [List.append_assoc,List.singleton_append]
 rw [show UInt8.ofNat s[i].toNat=s[i] from UInt8.ofNat_toNat]
theorem c4Q {s:List UInt8} {i acc x:Nat} (h:c4P s i acc) (hi:i<s.length) (h9:i<=8) (hx:s[i].toNat=x) (hlt:x<128) (hacc:acc<128^i):(a0h (acc+x*128^i)=s.take (i+1))↔¬(1<128^i/\x=0):=by
 constructor
 ·rintro h1 ⟨h2,rfl⟩
  have h3:0<i:=by
   rcases Nat.eq_zero_or_pos i with h0|h0
   ·subst h0;simp at h2
   ·exact h0
  have:=a6b 9 i acc h3 hacc
  have h4:(a0h (acc+0*128^i)).length=i+1:=by rw [h1];simp;omega
  rw [show acc+0*128^i=acc by omega] at h4
  unfold a0h at h4
  omega
 ·intro h1
  have h2:=h x (by
   rcases Nat.eq_zero_or_pos i with h0|h0
   ·exact .inr h0
   ·have:=Nat.one_lt_pow (a:=128) (n:=i) (by omega) (by omega)
    left
    rcases Nat.eq_zero_or_pos x with hx0|hx0
    ·exact absurd ⟨this,hx0⟩ h1
    ·exact hx0)
  rw [Nat.mul_comm] at h2
  rw [a0h,h2,a5t hlt,<-List.take_append_getElem hi,<-hx]
  simp
def a1S (s:List UInt8):AV:=match takeN s with
 |some (n,r)=>.t [(false,[.raw (.int .i64 n)]),(false,[.str r]),(false,[.raw (.bool true)])]
 |none=>.t [(false,[.raw (.int .i64 0)]),(false,[.str []]),(false,[.raw (.bool false)])]
def c7L (s:List UInt8) (q:Nat) (st:St):Prop:=∃(i acc:Nat),i<=min s.length 5/\q=5-i/\acc<128^i/\st.s 0=.c (.str s)/\st.s 5=.c (.raw (.int .i64 acc))/\st.s 6=.c (.raw (.int .i64 i))/\
 a3D (5-i) (128^i) acc (s.drop i)=takeN s/\c4P s i acc/\a0E st.H st.T
theorem c1J (s:List UInt8) (hs:s.length<4611686018427387904):PEv Tryz.prog 143 [.c (.str s)] (a1S s):=by
 refine a0f mixed c9e Tryz.func143 e9X e9Y (by kernel_rfl) (by unfold a1S;split<;>simp) (by simp) ?_
 simp [e9W]
 refine a6I (c7L s) 5 ⟨0,0,by omega,rfl,by simp,by simp,by simp,by simp,rfl,d1g s,by simp;exact a1n.mono (by omega)⟩ ?_
 rintro q st ⟨i,acc,hi,rfl,hacc,k0,k5,k6,hT,hR,hf⟩ J hJ
 have hfu:∀k d,st.T<=k->st.H (k,d)=.a0g:=hf
 by_cases hlt:i<min s.length 5
 ·have hlt2:i<s.length:=by omega
  have e6i:(i:Int)<5:=by omega
  have hlt':((i:Int)<s.length):=by omega
  have hk:5-i=(4-i)+1:=by omega
  rw [hk,take_at hlt2] at hT
  have hb:=s[i].toNat_lt
  obtain ⟨x,hx,hx2⟩:∃x:Nat,s[i].toNat%128=x/\x<128:=⟨_,rfl,by omega⟩
  have c1:=c0j s i hlt2
  have c2:=c8T s[i]
  have hRs:=c1I hR hlt2 (by omega) hx
  have hRe:=fun h=>c4Q (x:=x) hR hlt2 (by omega) h hx2 hacc
  rw [hx] at c2 hT
  have c3:IntKind.wrap .i64 (x:Int)=x:=by rw [a0d]<;>omega
  have c4:IntKind.wrap .i64 (7*(i:Int))=7*(i:Int):=by rw [a0d]<;>omega
  have h7:(128:Nat)^i=2^(7*i):=by rw [show (128:Nat)=2^7 from rfl,<-Nat.pow_mul]
  have c2j:min (7*(i:Int)).toNat (IntKind.bits .i64)=7*i:=by
   have:IntKind.bits .i64=64:=rfl
   omega
  have hp:128^i<=128^4:=Nat.pow_le_pow_right (by omega) (by omega)
  have h4:(128:Nat)^4=268435456:=by decide
  have hxi:x*128^i<=127*268435456:=Nat.mul_le_mul (by omega) (by omega)
  have c5:=c38 hacc (i:=i) (by omega) hx2
  have c6:IntKind.wrap .i64 ((x:Int)*2^(7*i))=((x*128^i:Nat):Int):=by
   rw [h7]
   have:((x:Int)*2^(7*i))=((x*2^(7*i):Nat):Int):=by push_cast;rfl
   rw [this,<-h7]
   exact a0d (by omega) (by omega)
  have e2:IntKind.wrap .i64 ((i:Int)+1)=((i+1:Nat):Int):=by rw [a0d]<;>omega
  have hnew:acc+x*128^i<128^(i+1):=by
   rw [Nat.pow_succ]
   have:x*128^i<=127*128^i:=Nat.mul_le_mul_right _ (by omega)
   omega
  obtain ⟨y,hy⟩:∃y,x*128^i=y:=⟨_,rfl⟩
  rw [hy] at c5 c6 hT hxi hRs hRe hnew
  obtain ⟨z,hz⟩:∃z,acc+y=z:=⟨_,rfl⟩
  rw [hz] at c5 hT hRs hRe hnew
  have f5V:z<9223372036854775808:=by omega
  by_cases hge:128<=s[i].toNat
  ·have hge':¬(s[i].toNat:Int)<128:=by omega
   rw [if_pos hge] at hT
   simp [a92,k0,k5,k6,e6i,hlt',hlt2,hfu,c1,c2,c3,c4,c2j,c5,c6,e2,hge']
   refine ⟨by omega,5-(i+1),by omega,hJ _ _ ⟨i+1,z,by omega,rfl,hnew,by simp [k0],by simp,by simp,?_,hRs hge,by simp;exact hf.mono (by omega)⟩⟩
   rw [show 5-(i+1)=4-i by omega,Nat.pow_succ]
   exact hT
  ·have hge':(s[i].toNat:Int)<128:=by omega
   rw [if_neg hge] at hT
   have hxs:s[i].toNat=x:=by omega
   have hRe:=hRe hxs
   have hl1:((i+1:Nat):Int)<=s.length:=by omega
   have ht:List.take (i+1) s=s.take (i+1):=rfl
   by_cases hbig:268435456<z
   ·have hbig':(268435456:Int)<z:=by omega
    rw [if_pos (.inl hbig)] at hT
    simp [a92,k0,k5,k6,e6i,hlt',hlt2,hfu,c1,c2,c3,c4,c2j,c5,c6,e2,hge',hbig']
    refine ⟨by omega,?_⟩
    simp [a1S,<-hT]
   ·have hbig':¬(268435456:Int)<z:=by omega
    cases hc:decide (a0h z=s.take (i+1))
    ·have hn:=(not_congr hRe).1 (of_decide_eq_false hc)
     rw [Decidable.not_not] at hn
     rw [if_pos (.inr ⟨hn.1,by omega⟩)] at hT
     simp [a92,k0,k5,k6,e6i,hlt',hlt2,hfu,c1,c2,c3,c4,c2j,c5,c6,e2,hge',hbig',f5V,hc]
     refine ⟨by omega,by omega,⟨by omega,by omega⟩,?_⟩
     simp [a1S,<-hT]
    ·have hn:=hRe.1 (of_decide_eq_true hc)
     rw [if_neg (by rintro (h|⟨h1,h2⟩);exact hbig h;exact hn ⟨h1,by omega⟩)] at hT
     simp [a92,k0,k5,k6,e6i,hlt',hlt2,hfu,c1,c2,c3,c4,c2j,c5,c6,e2,hge',hbig',f5V,hc]
     refine ⟨by omega,by omega,⟨by omega,by omega⟩,?_⟩
     simp [a1S,<-hT]
 ·have hi2:i=min s.length 5:=by omega
  have hn:none=takeN s:=by
   rw [<-hT]
   by_cases h5:s.length<5
   ·rw [List.drop_eq_nil_of_le (by omega),show 5-i=(4-i)+1 by omega,a3D]
   ·rw [show 5-i=0 by omega,a3D]
  have hr:a1S s=.t [(false,[.raw (.int .i64 0)]),(false,[.str []]),(false,[.raw (.bool false)])]:=by rw [a1S,<-hn]
  by_cases h5:i<5
  ·have h5':(i:Int)<5:=by omega
   have hlt':¬(i:Int)<s.length:=by omega
   simp [a92,k0,k5,k6,h5',hlt',hr]
  ·have h5':¬(i:Int)<5:=by omega
   simp [a92,k0,k5,k6,h5',hr]
open Go Go.Proofs
def b3Q:List AV->Option (Prop×AV):=t1 (fun s=>s.length<4611686018427387904) fun s:List UInt8=>a1S s
@[simp] theorem d8M {l:List AV}:b3Q l=(t1 (fun s=>s.length<4611686018427387904) fun s:List UInt8=>a1S s) l:=(rfl)
def FH0:CT:=(143,.pu b3Q)::FG5
theorem c4R:a1k Tryz.prog FH0:=⟨a0n fun s h=>c1J s h,c9e⟩
@[simp] theorem d3W:a0c FH0 143=some (.pu b3Q):=(rfl)
@[simp] theorem e4i {n:Nat} (h:(n==143)=false):a0c FH0 n=a0c FG5 n:=by
 simp only [Bool.or_eq_false_iff,beq_eq_false_iff_ne,ne_eq] at h
 simp [FH0,a0c,h]
theorem a1C {s r:List UInt8} {n:Nat} (h:takeN s=some (n,r)):a1S s=.t [(false,[.raw (.int .i64 n)]),(false,[.str r]),(false,[.raw (.bool true)])]:=by rw [a1S,h]
theorem a3a {s:List UInt8} (h:takeN s=none):a1S s=.t [(false,[.raw (.int .i64 0)]),(false,[.str []]),(false,[.raw (.bool false)])]:=by rw [a1S,h]
def a1t (s:List UInt8):AV:=.t [(false,[.str (a0Q s).1]),(false,[.str (a0Q s).2.1]),(false,[.raw (.bool (decide ((a0Q s).2.2=0)))])]
theorem b0V (s:List UInt8) (hs:s.length<4611686018427387904):PEv Tryz.prog 225 [.c (.str s)] (a1t s):=by
 refine a0f mixed c4R Tryz.func225 f2h f2i (by kernel_rfl) (by simp [a1t]) (by simp) ?_
 cases hn:takeN s with
 |none=>
  simp [d7a,hs,a3a hn]
  simp [a1t,a0Q,hn]
 |some q=>
  obtain ⟨n,r⟩:=q
  obtain ⟨h1,h2⟩:=a16 hn
  by_cases hl:n<=r.length
  ·have hl':¬(r.length:Int)<n:=by omega
   simp [d7a,hs,a1C hn,hl,hl']
   simp [a1t,a0Q,hn,hl]
  ·have hl':(r.length:Int)<n:=by omega
   simp [d7a,hs,a1C hn,hl,hl']
   simp [a1t,a0Q,hn,hl]
theorem b3R (s:List UInt8) (hs:s.length<4611686018427387904):PEv Tryz.prog 142 [.c (.str s)] (a1y s):=by
 refine a0f mixed c4R Tryz.func142 e9U e9V (by kernel_rfl) (by unfold a1y;split<;>simp) (by simp) ?_
 cases hn:takeN s with
 |none=>
  simp [d0M,hs,a3a hn]
  simp [a1y,a2Y,hn]
 |some q=>
  obtain ⟨n,r⟩:=q
  obtain ⟨h1,h2⟩:=a16 hn
  have hsp:=a6q hn
  have hsl:s.length=(a0h n).length+r.length:=by rw [hsp,List.length_append]
  by_cases h7:700<n
  ·have h7':(700:Int)<n:=by omega
   simp [d0M,hs,a1C hn,h7']
   simp [a1y,a2Y,hn,h7]
  ·have h7':¬(700:Int)<n:=by omega
   have e1:IntKind.wrap .i64 (4+(n:Int))=((4+n:Nat):Int):=by rw [a0d]<;>omega
   by_cases h8:r.length<n+4
   ·have h8':(r.length:Int)<((4+n:Nat):Int):=by omega
    obtain ⟨b,hb⟩:∃b,4+n=b:=⟨_,rfl⟩
    rw [hb] at e1 h8'
    simp [d0M,hs,a1C hn,h7',e1,h8']
    simp [a1y,a2Y,hn,h7,h8]
   ·have h8':¬(r.length:Int)<((4+n:Nat):Int):=by omega
    have hT:a2Y s=if r.take 4=a2H (ofN (a0h n++(r.take (4+n)).drop 4)) then some ((r.take (4+n)).drop 4,r.drop (4+n)) else none:=by
     rw [a2Y,hn]
     simp only
     rw [if_neg (by omega)]
     have:s.take (s.length-r.length)=a0h n:=by
      rw [hsl,show (a0h n).length+r.length-r.length=(a0h n).length by omega,hsp]
      simp
     rw [this]
    obtain ⟨b,hb⟩:∃b,4+n=b:=⟨_,rfl⟩
    rw [hb] at e1 h8' hT
    have e5:b<=r.length:=by omega
    have e6:4<=b:=by omega
    have htl:((r.take b).drop 4).length=n:=by simp;omega
    have htk:r.take b=r.take 4++(r.take b).drop 4:=by
     have h:=(List.take_append_drop 4 (r.take b)).symm
     rwa [List.take_take,Nat.min_eq_left e6] at h
    generalize ht:(r.take b).drop 4=t at *
    have hf:a1e t=a0h n++a2H (ofN (a0h n++t))++t:=by rw [a1e,if_neg (by omega),htl]
    have l1:(a2H (ofN (a0h n++t))).length=4:=rfl
    have hfl:(a1e t).length=(a0h n).length+b:=by rw [hf];simp only [List.length_append];omega
    have hst:s.take (a1e t).length=a0h n++r.take b:=by
     rw [hfl,hsp,List.take_append,List.take_of_length_le (by omega),Nat.add_sub_cancel_left]
    have hiff:(s.take (a1e t).length=a1e t)↔r.take 4=a2H (ofN (a0h n++t)):=by
     rw [hst,hf,htk,List.append_assoc,List.append_cancel_left_eq,List.append_cancel_right_eq]
    have k1:t.length<4611686018427387904:=by omega
    have k2:(a1e t).length<=s.length:=by omega
    have k3:(4:Int)<=b:=by omega
    have k4:(b:Int)<=r.length:=by omega
    cases hc:decide (s.take (a1e t).length=a1e t)
    ·have hc':=(not_congr hiff).1 (of_decide_eq_false hc)
     rw [if_neg hc'] at hT
     simp [d0M,hs,a1C hn,h7',e1,h8',ht,e5,e6,k1,k2,k3,k4,hc]
     simp [a1y,hT]
    ·have hc':=hiff.1 (of_decide_eq_true hc)
     rw [if_pos hc'] at hT
     simp [d0M,hs,a1C hn,h7',e1,h8',ht,e5,e6,k1,k2,k3,k4,hc]
     simp [a1y,hT]
def b3S:List AV->Option (Prop×AV):=t1 (fun s=>s.length<4611686018427387904) fun s:List UInt8=>a1t s
@[simp] theorem d8N {l:List AV}:b3S l=(t1 (fun s=>s.length<4611686018427387904) fun s:List UInt8=>a1t s) l:=(rfl)
def b3T:List AV->Option (Prop×AV):=t1 (fun s=>s.length<4611686018427387904) fun s:List UInt8=>a1y s
@[simp] theorem d8O {l:List AV}:b3T l=(t1 (fun s=>s.length<4611686018427387904) fun s:List UInt8=>a1y s) l:=(rfl)
def FH1:CT:=(225,.pu b3S)::(142,.pu b3T)::FH0
theorem c4S:a1k Tryz.prog FH1:=⟨a0n fun s h=>b0V s h,
 a0n fun s h=>b3R s h,c4R⟩
@[simp] theorem d3X:a0c FH1 225=some (.pu b3S):=(rfl)
@[simp] theorem d3Y:a0c FH1 142=some (.pu b3T):=(rfl)
@[simp] theorem e4j {n:Nat} (h:(n==225||n==142)=false):a0c FH1 n=a0c FH0 n:=by
 simp only [Bool.or_eq_false_iff,beq_eq_false_iff_ne,ne_eq] at h
 simp [FH1,a0c,h]
open Go Go.Proofs Go.Shelf
def lays197_ren:Go.Shelf.Ren:=⟨fun|197=>169|260=>200|n=>n,fun|9=>9|21=>21|3=>3|4=>4|5=>5|105=>195|119=>239|0=>0|46=>168|139=>242|138=>241|n=>n,fun|3=>0|4=>1|n=>n⟩
theorem lays197:Lays.n197 Tryz.prog lays197_ren where
 mixed:=by kernel_rfl
 f197:=Tryz.func169.trans (congrArg some (by kernel_rfl))
 f260:=Tryz.func200.trans (congrArg some (by kernel_rfl))
 t0:=Tryz.underlying0
 a0:=Tryz.isAgg0
 z0:=Tryz.sizeOf0
 v0:=Tryz.zeroValue0
 t3:=Tryz.underlying3
 a3:=Tryz.isAgg3
 z3:=Tryz.sizeOf3
 v3:=Tryz.zeroValue3
 t4:=Tryz.underlying4
 a4:=Tryz.isAgg4
 z4:=Tryz.sizeOf4
 v4:=Tryz.zeroValue4
 t5:=Tryz.underlying5
 a5:=Tryz.isAgg5
 z5:=Tryz.sizeOf5
 v5:=Tryz.zeroValue5
 t9:=Tryz.underlying9
 a9:=Tryz.isAgg9
 z9:=Tryz.sizeOf9
 v9:=Tryz.zeroValue9
 t21:=Tryz.underlying21
 a21:=Tryz.isAgg21
 z21:=Tryz.sizeOf21
 v21:=Tryz.zeroValue21
 t46:=Tryz.underlying168
 a46:=Tryz.isAgg168
 z46:=Tryz.sizeOf168
 v46:=Tryz.zeroValue168
 t105:=Tryz.underlying195
 a105:=Tryz.isAgg195
 z105:=Tryz.sizeOf195
 v105:=Tryz.zeroValue195
 t119:=Tryz.underlying239
 a119:=Tryz.isAgg239
 z119:=Tryz.sizeOf239
 t138:=Tryz.underlying241
 a138:=Tryz.isAgg241
 z138:=Tryz.sizeOf241
 v138:=Tryz.zeroValue241
 t139:=Tryz.underlying242
 a139:=Tryz.isAgg242
 z139:=Tryz.sizeOf242
 v139:=Tryz.zeroValue242
 g3:=by kernel_rfl
 g4:=by kernel_rfl
open Go Go.Proofs
def a2V (e:a0F):Bool:=decide (e=⟨0,0,0⟩)
theorem b1N (e:a0F):decide (e=⟨0,0,0⟩)=a2V e:=rfl
theorem c0x (e:a0F):PEv Tryz.prog 118 [Arg.enc e] (.c (.raw (.bool (a2V e)))):=by
 refine a0f mixed (F:=[]) trivial Tryz.func118 e9v e9w (by kernel_rfl) (by simp) (by simp) ?_
 simp [e9u]
 rw [a2V]
 exact c7x e
theorem c1K (r:Int):PEv Tryz.prog 170 [.c (.raw (.int .i32 r))] (.c (.raw (.bool (a2z r)))):=by
 refine a0f mixed (F:=[]) trivial Tryz.func170 f0J f0K (by kernel_rfl) (by simp) (by simp) ?_
 by_cases h1:r=10
 ·subst h1
  simp [c54,a2z]
 ·by_cases h2:32<=r
  ·by_cases h3:r<=55295
   ·by_cases h4:r=127
    ·subst h4
     simp [c54,a2z]
    ·simp [c54,a2z,h1,h2,h3,h4]
     omega
   ·by_cases h4:57344<=r
    ·by_cases h5:r<=1114111
     ·by_cases h6:r=65533
      ·subst h6
       simp [c54,a2z]
      ·simp [c54,a2z,h1,h2,h3,h4,h5,h6]
       omega
     ·simp [c54,a2z,h1,h2,h3,h4,h5]
    ·simp [c54,a2z,h1,h2,h3,h4]
  ·have h4:¬57344<=r:=by omega
   simp [c54,a2z,h1,h2,h4]
theorem c4T (o:OpV) (e:a0F):PEv Tryz.prog 121 [Arg.enc o,Arg.enc e] (.c (.raw (.bool (ownB o e)))):=by
 refine a0f mixed (F:=[]) trivial Tryz.func121 e9C e9D (by kernel_rfl) (by simp) (by simp [a0e]) ?_
 cases h:decide (e.site=o.site)
 ·simp [e25,a0e,ownB,h]
 ·simp [e25,a0e,ownB,h]
theorem c1L (a b:a0F):PEv Tryz.prog 122 [Arg.enc a,Arg.enc b] (.c (.raw (.bool (a8g a b)))):=by
 refine a0f mixed (F:=[]) trivial Tryz.func122 e9E e9F (by kernel_rfl) (by simp) (by simp) ?_
 have hl:a8g a b=if a.site=b.site then (if a.seq=b.seq then decide (a.i<b.i) else decide (a.seq<b.seq)) else decide (a.site<b.site):=by
  simp only [a8g,a6p,orI,c57]
  repeat' split
  all_goals first
   |(simp_all;done)
   |(simp_all;omega)
 cases h1:decide (a.site=b.site)
 ·have h1':=of_decide_eq_false h1
  rw [hl,if_neg h1']
  simp [d6P,h1]
 ·have h1':=of_decide_eq_true h1
  rw [hl,if_pos h1']
  cases h2:decide (a.seq=b.seq)
  ·have h2':=of_decide_eq_false h2
   rw [if_neg h2']
   simp [d6P,h1,h2]
  ·have h2':=of_decide_eq_true h2
   rw [if_pos h2']
   simp [d6P,h1,h2]
open Go Go.Proofs
structure Rn where
 n:Int
 deriving DecidableEq
instance f9Y:Enc Rn where
 w:=1
 row b:=[.raw (.int .i32 b.n)]
 dec|[.raw (.int .i32 n)]=>some ⟨n⟩|_=>none
 a36 a:=rfl
 a3O {r a} h:=by split at h<;>simp_all;subst h;rfl
 len _:=rfl
 old a c hc:=by simp at hc;subst hc;exact .raw _
 ret a c hc:=by simp at hc;subst hc;exact .raw _
@[simp] theorem f5F (b:Rn):Enc.row b=[AC.raw (.int .i32 b.n)]:=rfl
@[simp] theorem g04:Enc.w Rn=1:=rfl
instance f9Z:Arg Rn where
 enc w:=.c (.raw (.int .i32 w.n))
 dec|.c (.raw (.int .i32 n))=>some ⟨n⟩|_=>none
 a1o {x a} h:=by split at h<;>simp_all;subst h;rfl
@[simp] theorem f5G (w:Rn):Arg.enc w=.c (.raw (.int .i32 w.n)):=rfl
@[simp] theorem f5H (n:Int):(Arg.dec (.c (.raw (.int .i32 n))):Option Rn)=some ⟨n⟩:=rfl
def a5x (s:List UInt8) (i:Nat):Nat×Nat:=Utf8.decode ⟨s.toArray⟩ i
def a4Q (s:List UInt8):Nat->Nat->Option (List Rn)
 |0,_=>some []
 |f+1,i=>if i<s.length then (if a2z ((a5x s i).1:Int)=true then (a4Q s f (i+(a5x s i).2)).map (⟨((a5x s i).1:Int)⟩::·) else none) else some []
def runesL (s:List UInt8):Option (List Rn):=a4Q s s.length 0
theorem a6Y (s:List UInt8):∀f i,match a4Q s f i with
  |some l=>Lib.idxFuncFrom (fun r=>!a2z (r:Int)) true ⟨s.toArray⟩ f i=-1/\Lib.runeCountFrom ⟨s.toArray⟩ f i=l.length
  |none=>0<=Lib.idxFuncFrom (fun r=>!a2z (r:Int)) true ⟨s.toArray⟩ f i
 |0,i=>by simp [a4Q,Lib.idxFuncFrom,Lib.runeCountFrom]
 |f+1,i=>by
  have ih:=a6Y s f (i+(a5x s i).2)
  have hsz:(⟨s.toArray⟩:ByteArray).size=s.length:=by simp [ByteArray.size]
  unfold a4Q Lib.idxFuncFrom Lib.runeCountFrom
  rw [hsz]
  by_cases h:i<s.length
  ·rw [if_pos h,if_pos h,if_pos h]
   change (match (if a2z ((a5x s i).1:Int)=true then (a4Q s f (i+(a5x s i).2)).map (⟨((a5x s i).1:Int)⟩::·) else none) with
    |some l=>(if (!a2z ((a5x s i).1:Int))=true then (i:Int) else Lib.idxFuncFrom (fun r=>!a2z (r:Int)) true ⟨s.toArray⟩ f (i+(a5x s i).2))=-1/\1+Lib.runeCountFrom ⟨s.toArray⟩ f (i+(a5x s i).2)=l.length
    |none=>0<=(if (!a2z ((a5x s i).1:Int))=true then (i:Int) else Lib.idxFuncFrom (fun r=>!a2z (r:Int)) true ⟨s.toArray⟩ f (i+(a5x s i).2)))
   cases hb:a2z ((a5x s i).1:Int)
   ·simp
   ·simp only [if_true,Bool.not_true,Bool.false_eq_true,if_false]
    cases hr:a4Q s f (i+(a5x s i).2) with
    |none=>rw [hr] at ih;simpa using ih
    |some l=>rw [hr] at ih;simp at ih ⊢;omega
  ·simp [if_neg h]
theorem a99 (s:List UInt8):a3W s=(runesL s).isSome:=by
 have h:=a6Y s s.length 0
 have hsz:(⟨s.toArray⟩:ByteArray).size=s.length:=by simp [ByteArray.size]
 unfold a3W Lib.idxFunc runesL
 rw [hsz]
 cases hr:a4Q s s.length 0 with
 |none=>rw [hr] at h;simpa using h
 |some l=>rw [hr] at h;simp;omega
theorem b1O {s:List UInt8} {l:List Rn} (h:runesL s=some l):a07 s=l.length:=by
 have h':=a6Y s s.length 0
 have hsz:(⟨s.toArray⟩:ByteArray).size=s.length:=by simp [ByteArray.size]
 unfold runesL at h
 rw [h] at h'
 unfold a07 Lib.runeCount
 rw [hsz]
 exact h'.2
theorem d1h {w:World} (h:Inv Tryz.prog w):Lib.Utf8Tabs (lays197_ren.g 3) (lays197_ren.g 4) w:=by
 obtain ⟨h1,h2⟩:=h (lays197_ren.g 3) (lays197_ren.g 4) (by kernel_rfl) (by kernel_rfl)
 have e:∀c,(Lib.firstT c:Int)=c6b c:=fun c=>by
  unfold Lib.firstT c6b
  repeat' split
  all_goals first|rfl|omega
 have e2:∀c,(Lib.accLo c:Int)=b2b c:=fun c=>by
  unfold Lib.accLo b2b
  repeat' split
  all_goals rfl
 have e3:∀c,(Lib.accHi c:Int)=b2c c:=fun c=>by
  unfold Lib.accHi b2c
  repeat' split
  all_goals rfl
 exact ⟨fun c hc=>by rw [e];exact h1 c hc,fun i hi=>by rw [e2,e3];exact h2 i hi⟩
def a7L (s:List UInt8):AV:=.t [(false,[.raw (.int .i32 ((Lib.decodeGo ⟨s.toArray⟩).1:Int))]),(false,[.raw (.int .i64 ((Lib.decodeGo ⟨s.toArray⟩).2:Int))])]
theorem d1i {P:Program} {f:FuncId} {args:List AV} {u v:Value} (hok:a4H P f=true) (ha:∀x∈args,∀c∈x.flat,VOK c)
  (h:∀(w:World) (hI:Inv P w) (F:Tag->Nat->Prop) (vs:Array Value),vs.size=args.length->(∀(k:Nat) x,args[k]?=some x->a3u w F a0s a0G x (vs.getD k undef))->
   Calls P f vs w fun e w'=>e=.returned (.tuple #[u,v])/\RowKit.Below w.heap.size w w'):PEv P f args (.t [(false,[.raw u]),(false,[.raw v])]):=by
 refine ⟨⟨hok,by simp [AV.flat],ha⟩,fun w hI G vs hsz hargs nm inj=>?_⟩
 refine (h w hI _ vs hsz hargs).mono ?_
 rintro e w' ⟨rfl,hb⟩
 refine ⟨_,rfl,a0G,⟨hb,(fun id e sz f rows hid=>by cases hid),(fun id id' e sz rows e' sz' f' rows' b c s c' s' hid=>by cases hid),⟨0,fun _ _ _=>rfl⟩,.none (fun _ _ _ h=>by cases h) (fun _ h=>h.elim) (fun _ _ _ _ _ _ h=>h)⟩,?_⟩
 refine .t _ _ rfl fun k b cs hk=>?_
 match k,hk with
 |0,hk=>simp [adT,adL,adC] at hk;obtain ⟨rfl,rfl⟩:=hk;exact .c _ _ (.raw _)
 |1,hk=>simp [adT,adL,adC] at hk;obtain ⟨rfl,rfl⟩:=hk;exact .c _ _ (.raw _)
theorem c4U (s:List UInt8):PEv Tryz.prog 169 [.c (.str s)] (a7L s):=by
 refine d1i (by kernel_rfl) (by simp) fun w hI F vs hs' hr=>?_
 have h0:=a14 (a0D (hr 0 _ rfl))
 rw [vs1 hs' h0]
 exact Any.utf8_DecodeRuneInString lays197 ⟨s.toArray⟩ w (d1h hI)
theorem decode_at (s:List UInt8) (i:Nat) (h:i<s.length):Lib.decodeGo ⟨(s.drop i).toArray⟩=a5x s i:=by
 have hsz:(⟨s.toArray⟩:ByteArray).size=s.length:=by simp [ByteArray.size]
 have he:(⟨(s.drop i).toArray⟩:ByteArray)=(⟨s.toArray⟩:ByteArray).extract i (⟨s.toArray⟩:ByteArray).size:=by
  apply ByteArray.ext
  apply Array.ext'
  rw [Lib.extract_data,hsz]
  simp
  exact (List.take_of_length_le (by simp)).symm
 rw [he,Lib.decodeGo,if_neg (by rw [Lib.tail_size,hsz];omega),Lib.tail_decode]
 rfl
theorem c4V (s:List UInt8) (i:Nat):(a5x s i).2<=4:=by
 unfold a5x
 rw [Lib.decode_at]
 exact Lib.decodeN_le4 _ _ _ _ _
theorem c4W (s:List UInt8) (i:Nat) (h:i<s.length):1<=(a5x s i).2:=Lib.decode_width_pos _ _ (by simpa [ByteArray.size] using h)
def b3U:List AV->Option (Prop×AV):=t1 (fun _=>True) fun s:List UInt8=>a7L s
@[simp] theorem d8P {l:List AV}:b3U l=(t1 (fun _=>True) fun s:List UInt8=>a7L s) l:=(rfl)
def b3V:List AV->Option (Prop×AV):=t1 (fun _=>True) fun r:Rn=>.c (.raw (.bool (a2z r.n)))
@[simp] theorem d8Q {l:List AV}:b3V l=(t1 (fun _=>True) fun r:Rn=>.c (.raw (.bool (a2z r.n)))) l:=(rfl)
def FH2:CT:=(169,.pu b3U)::(170,.pu b3V)::FH1
theorem c9f:a1k Tryz.prog FH2:=⟨a0n fun s _=>c4U s,
 a0n fun r _=>c1K r.n,c4S⟩
@[simp] theorem d3Z:a0c FH2 169=some (.pu b3U):=(rfl)
@[simp] theorem d4a:a0c FH2 170=some (.pu b3V):=(rfl)
@[simp] theorem e4k {n:Nat} (h:(n==169||n==170)=false):a0c FH2 n=a0c FH1 n:=by
 simp only [Bool.or_eq_false_iff,beq_eq_false_iff_ne,ne_eq] at h
 simp [FH2,a0c,h]
def a1c (s:List UInt8):AV:=match runesL s with
 |some l=>.t [(false,[.nw 21 1 (a0a l)]),(false,[.raw (.bool true)])]
 |none=>.t [(false,[.nw 21 1 []]),(false,[.raw (.bool false)])]
def d8R (s:List UInt8) (q:Nat) (st:St):Prop:=∃(i f:Nat) (L:List Rn) (c:AC),q=f/\f+L.length=s.length/\(i<s.length->L.length<=i)/\i<=s.length+4/\st.s 0=.c (.str s)/\st.s 4=.c c/\st.s 5=.c (.raw (.int .i64 i))/\
 a9h st.H 21 1 0 c L/\(a4Q s f i).map (L++·)=runesL s/\a0E st.H st.T
theorem b0a (s:List UInt8) (hs:s.length<1000000):PEv Tryz.prog 119 [.c (.str s)] (a1c s):=by
 refine a0f mixed c9f Tryz.func119 e9y e9z (by kernel_rfl) (by unfold a1c;split<;>simp [b0J]) (by simp) ?_
 simp [e9x]
 refine a6I (d8R s) s.length ⟨0,s.length,[],.raw (.slice none 0 0),rfl,by simp,by simp,by omega,by simp,by simp,by simp,a9h.nil,by simp [runesL],by simp;exact a1n.mono (by omega)⟩ ?_
 rintro q st ⟨i,f,L,c,rfl,hf1,hf2,hi,k0,k4,k5,hc,hR,hf⟩ J hJ
 have hfu:∀k d,st.T<=k->st.H (k,d)=.a0g:=hf
 by_cases hlt:i<s.length
 ·have hlt':(i:Int)<s.length:=by omega
  have hL:=hf2 hlt
  obtain ⟨f',rfl⟩:∃f',q=f'+1:=⟨q-1,by omega⟩
  rw [a4Q,if_pos hlt] at hR
  have hd:=decode_at s i hlt
  have hw4:=c4V s i
  have hw1:=c4W s i hlt
  rcases hp:a5x s i with ⟨r,w⟩
  rw [hp] at hd hw4 hw1 hR
  simp only at hw4 hw1 hR
  have hdv:a7L (s.drop i)=.t [(false,[.raw (.int .i32 (r:Int))]),(false,[.raw (.int .i64 (w:Int))])]:=by rw [a7L,hd]
  have hw:IntKind.wrap .i64 ((i:Int)+w)=((i+w:Nat):Int):=by rw [a0d]<;>omega
  have hil:(i:Int)<=s.length:=by omega
  have f3V:i<=s.length:=by omega
  cases hb:a2z (r:Int)
  ·rw [hb] at hR
   simp at hR
   have hav:a1c s=.t [(false,[.nw 21 1 []]),(false,[.raw (.bool false)])]:=by rw [a1c,<-hR]
   simp [b1q,k0,k4,k5,hlt',hil,f3V,hfu,hdv,hb,hav]
  ·rw [hb] at hR
   simp at hR
   have hR':Option.map (fun x=>(L++[⟨(r:Int)⟩])++x) (a4Q s f' (i+w))=runesL s:=by rw [<-hR];simp [Function.comp_def]
   have hlen:1+(L.length+1)<=s.length+1:=by omega
   rcases hc with ⟨rfl,rfl⟩|⟨id,rfl,b0H,hid⟩
   ·simp (maxDischargeDepth:=8) [b1q,k0,k4,k5,hlt',hil,f3V,hfu,hdv,hb,hw,Nat.le_add_right_of_le]
    refine ⟨f',by omega,hJ _ _ ⟨i+w,f',[⟨(r:Int)⟩],.so (st.T+3,25) 0 1,rfl,by simp at hf1 ⊢;omega,fun _=>by simp;omega,by omega,by simp [k0],by simp,by simp,a9h.so rfl (Nat.zero_le _) (by simp;rfl),by simpa using hR',?_⟩⟩
    simp
    repeat' (first|exact hf.mono (by first|omega|(simp<;>omega))|(refine a0E.set' ?_ (by first|omega|(simp<;>omega))))
   ·obtain ⟨f1,f2,f3⟩:=hf.arr hid
    simp (maxDischargeDepth:=8) [b1q,k0,k4,k5,hlt',hil,f3V,hfu,hdv,hb,hw,hid,f1,f2,Nat.le_add_right_of_le]
    refine ⟨by omega,f',by omega,hJ _ _ ⟨i+w,f',L++[⟨(r:Int)⟩],.so (st.T+3,25) 0 (L.length+1),rfl,by simp;omega,fun _=>by simp;omega,by omega,by simp [k0],by simp,by simp,a9h.so (by simp) (Nat.zero_le _) (by simp [a0a]),hR',?_⟩⟩
    simp
    repeat' (first|exact hf.mono (by first|omega|(simp<;>omega))|(refine a0E.set' ?_ (by first|omega|(simp<;>omega))))
 ·have hlt':¬(i:Int)<s.length:=by omega
  have hg:a4Q s q i=some []:=by
   cases q with
   |zero=>rfl
   |succ q=>rw [a4Q,if_neg hlt]
  rw [hg] at hR
  simp at hR
  rcases hc with ⟨rfl,rfl⟩|⟨id,rfl,b0H,hid⟩
  ·have hav:a1c s=.t [(false,[.nw 21 1 []]),(false,[.raw (.bool true)])]:=by rw [a1c,<-hR];rfl
   simp [b1q,k0,k4,k5,hlt',hav]
  ·obtain ⟨f1,f2,f3⟩:=hf.arr hid
   have hav:a1c s=.t [(false,[.nw 21 1 (a0a L)]),(false,[.raw (.bool true)])]:=by rw [a1c,<-hR]
   simp [b1q,k0,k4,k5,hlt',hid,f1,f2,hav]
open Go Go.Proofs
def b3W:List AV->Option (Prop×AV):=t1 (fun _=>True) fun e:a0F=>.c (.raw (.bool (a2V e)))
@[simp] theorem d8S {l:List AV}:b3W l=(t1 (fun _=>True) fun e:a0F=>.c (.raw (.bool (a2V e)))) l:=(rfl)
def b3X:List AV->Option (Prop×AV):=t2 (fun _ _=>True) fun (o:OpV) (e:a0F)=>.c (.raw (.bool (ownB o e)))
@[simp] theorem d8T {l:List AV}:b3X l=(t2 (fun _ _=>True) fun (o:OpV) (e:a0F)=>.c (.raw (.bool (ownB o e)))) l:=(rfl)
def b3Y:List AV->Option (Prop×AV):=t2 (fun _ _=>True) fun a b:a0F=>.c (.raw (.bool (a8g a b)))
@[simp] theorem d8U {l:List AV}:b3Y l=(t2 (fun _ _=>True) fun a b:a0F=>.c (.raw (.bool (a8g a b)))) l:=(rfl)
def b3Z:List AV->Option (Prop×AV):=t1 (fun s=>s.length<1000000) fun s:List UInt8=>a1c s
@[simp] theorem d8V {l:List AV}:b3Z l=(t1 (fun s=>s.length<1000000) fun s:List UInt8=>a1c s) l:=(rfl)
def FH3:CT:=(118,.pu b3W)::(121,.pu b3X)::(122,.pu b3Y)::(119,.pu b3Z)::FH2
theorem c9g:a1k Tryz.prog FH3:=⟨a0n fun e _=>c0x e,
 a0P fun o e _=>c4T o e,
 a0P fun a b _=>c1L a b,
 a0n fun s h=>b0a s h,c9f⟩
@[simp] theorem d4b:a0c FH3 118=some (.pu b3W):=(rfl)
@[simp] theorem d4c:a0c FH3 121=some (.pu b3X):=(rfl)
@[simp] theorem d4d:a0c FH3 122=some (.pu b3Y):=(rfl)
@[simp] theorem d4e:a0c FH3 119=some (.pu b3Z):=(rfl)
@[simp] theorem e4l {n:Nat} (h:(n==118||n==121||n==122||n==119)=false):a0c FH3 n=a0c FH2 n:=by
 simp only [Bool.or_eq_false_iff,beq_eq_false_iff_ne,ne_eq] at h
 simp [FH3,a0c,h]
theorem c1M (a b:Int):PEv Tryz.prog 117 [.c (.raw (.int .i64 a)),.c (.raw (.int .i64 b))] (.c (.raw (.bool (nameB a b)))):=by
 refine a0f mixed c9g Tryz.func117 e9s e9t (by kernel_rfl) (by simp) (by simp) ?_
 have e:nameB a b=((decide (1<=a)&&decide (a<=8))&&(decide (1<=b)&&decide (b<=268435456))):=by simp [nameB]
 cases c1:decide (1<=a)
 ·simp [d6N,e,c1]
 cases c2:decide (a<=8)
 ·simp [d6N,e,c1,c2]
 ·simp [d6N,e,c1,c2]
def b30:List AV->Option (Prop×AV):=t2 (fun _ _=>True) fun a b:Int=>.c (.raw (.bool (nameB a b)))
@[simp] theorem d8W {l:List AV}:b30 l=(t2 (fun _ _=>True) fun a b:Int=>.c (.raw (.bool (nameB a b)))) l:=(rfl)
def FH4:CT:=(117,.pu b30)::FH3
theorem c9h:a1k Tryz.prog FH4:=⟨a0P fun a b _=>c1M a b,c9g⟩
@[simp] theorem d4f:a0c FH4 117=some (.pu b30):=(rfl)
@[simp] theorem e4m {n:Nat} (h:(n==117)=false):a0c FH4 n=a0c FH3 n:=by
 simp only [Bool.or_eq_false_iff,beq_eq_false_iff_ne,ne_eq] at h
 simp [FH4,a0c,h]
theorem b7Y (e:a0F):PEv Tryz.prog 120 [Arg.enc e] (.c (.raw (.bool (a2o e)))):=by
 refine a0f mixed c9h Tryz.func120 e9A e9B (by kernel_rfl) (by simp) (by simp) ?_
 have h12:decide (e.i<12)=decide (e.i<=11):=by
  by_cases h:e.i<12
  ·simp [h];omega
  ·simp [h];omega
 have he:a2o e=(a2V e||(nameB e.site e.seq&&decide (0<=e.i)&&decide (e.i<=11))):=by rw [a2o,h12,a2V]
 cases c1:a2V e
 rotate_left
 ·simp [d6O,he,c1]
 cases c2:nameB e.site e.seq
 ·simp [d6O,he,c1,c2]
 ·simp [d6O,he,c1,c2]
def b31:List AV->Option (Prop×AV):=t1 (fun _=>True) fun e:a0F=>.c (.raw (.bool (a2o e)))
@[simp] theorem d8X {l:List AV}:b31 l=(t1 (fun _=>True) fun e:a0F=>.c (.raw (.bool (a2o e)))) l:=(rfl)
def FH5:CT:=(120,.pu b31)::FH4
theorem c9i:a1k Tryz.prog FH5:=⟨a0n fun e _=>b7Y e,c9h⟩
@[simp] theorem d4g:a0c FH5 120=some (.pu b31):=(rfl)
@[simp] theorem e4n {n:Nat} (h:(n==120)=false):a0c FH5 n=a0c FH4 n:=by
 simp only [Bool.or_eq_false_iff,beq_eq_false_iff_ne,ne_eq] at h
 simp [FH5,a0c,h]
def c7M (o:OpV) (q:Nat) (st:St):Prop:=∃i:Nat,i<=o.gone.length/\q=o.gone.length-i/\st.s 1=.c (.pt (0,1) 0 0)/\st.s 5=.c (.raw (.int .i64 i))/\st.H (0,1)=.arr 53 11 false [a0e .brw o]/\a0E st.H st.T/\
 a3g o (a4D o.gone i) (o.gone.drop i)=a3g o none o.gone
theorem c7N {Q:AEx->St->Prop} {st:St} (o:OpV) (hl:o.gone.length<=200) (k1:st.s 1=.c (.pt (0,1) 0 0)) (k5:st.s 5=.c (.raw (.int .i64 0))) (hH:st.H (0,1)=.arr 53 11 false [a0e .brw o]) (hf:a0E st.H st.T)
  (hn:a3g o none o.gone=true->∀st',Q (.exit 0) st') (hr:a3g o none o.gone=false->∀st',st'.s 2=.c (.raw (.bool false))->Q .ret st') :
  a2S Tryz.prog FH5 (.loop d6L) Q st:=by
 refine a6I (c7M o) o.gone.length ⟨0,by simp [a4D,k1,k5,hH,hf]⟩ ?_
 rintro n st ⟨i,hi,rfl,h1,h5,hH,hf,hp⟩ J hJ
 have hfu:∀k d,st.T<=k->st.H (k,d)=.a0g:=hf
 by_cases hlt:i<o.gone.length
 ·have hlt':(i:Int)<o.gone.length:=by omega
  have hw:IntKind.wrap .i64 ((i:Int)+1)=((i+1:Nat):Int):=by rw [a0d]<;>omega
  rw [b1z o hlt,b1N] at hp
  refine a3z (fun st'=>st'.s 1=.c (.pt (0,1) 0 0)/\st'.s 5=.c (.raw (.int .i64 i))/\st'.H (0,1)=.arr 53 11 false [a0e .brw o]/\a0E st'.H st'.T) ?_ ?_
  ·intro R' hR
   simp [h1,h5,hH,a0e,hlt,hlt',hfu]
   exact hR _ ⟨by simp [h1],by simp [h5],by simpa [a0e] using hH,by simp;exact hf.mono (by omega)⟩
  clear h1 h5 hH hf hfu
  rintro st' ⟨h1,h5,hH,hf⟩
  have hfu:∀k d,st'.T<=k->st'.H (k,d)=.a0g:=hf
  cases z:a2V o.gone[i]
  ·rw [z] at hp
   cases he:a2o o.gone[i]
   ·have hg:a3g o none o.gone=false:=by simp [<-hp,he]
    simp [h1,h5,hH,a0e,hlt,hlt',hw,hfu,z,he]
    exact hr hg _ (by simp)
   ·cases hw':ownB o o.gone[i]
    ·by_cases h0:i=0
     ·subst h0
      have hp':a3g o (a4D o.gone 1) (o.gone.drop 1)=a3g o none o.gone:=by rw [<-hp];simp [he,hw',a4D]
      simp [h1,h5,hH,a0e,hlt,hlt',hw,hfu,z,he,hw']
      refine ⟨o.gone.length-1,by omega,hJ _ _ ⟨1,by omega,rfl,by simp [h1],by simp;decide,by simpa [a0e] using hH,?_,hp'⟩⟩
      simp
      repeat' (first|exact hf.mono (by first|omega|(simp<;>omega))|(refine a0E.set' ?_ (by first|omega|(simp<;>omega))))
     ·obtain ⟨j,hj⟩:∃j,j+1=i:=⟨i-1,by omega⟩
      have hjl:j<o.gone.length:=by omega
      have hpe:a4D o.gone i=some o.gone[j]:=by subst hj;simp [a4D,hjl]
      have hs:IntKind.wrap .i64 ((i:Int)-1)=(j:Int):=by rw [a0d]<;>omega
      have hpos:0<i:=by omega
      cases hl':a8g o.gone[j] o.gone[i]
      ·have hg:a3g o none o.gone=false:=by simp [<-hp,he,hpe,hl']
       simp [h1,h5,hH,a0e,hlt,hlt',hw,hfu,z,he,hw',hl',hs,hjl,hpos,h0]
       exact hr hg _ (by simp)
      ·have hp':a3g o (a4D o.gone (i+1)) (o.gone.drop (i+1))=a3g o none o.gone:=by rw [<-hp];simp [he,hw',hpe,hl']
       simp [h1,h5,hH,a0e,hlt,hlt',hw,hfu,z,he,hw',hl',hs,hjl,hpos,h0]
       refine ⟨o.gone.length-(i+1),by omega,hJ _ _ ⟨i+1,by omega,rfl,by simp [h1],by simp,by simpa [a0e] using hH,?_,hp'⟩⟩
       simp
       repeat' (first|exact hf.mono (by first|omega|(simp<;>omega))|(refine a0E.set' ?_ (by first|omega|(simp<;>omega))))
    ·have hg:a3g o none o.gone=false:=by simp [<-hp,he,hw']
     simp [h1,h5,hH,a0e,hlt,hlt',hw,hfu,z,he,hw']
     exact hr hg _ (by simp)
  ·rw [z] at hp
   have hg:a3g o none o.gone=false:=by simp [<-hp]
   simp [h1,h5,hH,a0e,hlt,hlt',hw,hfu,z]
   exact hr hg _ (by simp)
 ·have hlt':¬(i:Int)<o.gone.length:=by omega
  have hi2:i=o.gone.length:=by omega
  have hg:a3g o none o.gone=true:=by
   subst hi2
   simp at hp
   rw [<-hp];cases a4D o.gone o.gone.length<;>rfl
  refine d0C 0 (fun _=>True) ?_ fun st' _=>hn hg st'
  intro R' hR
  simp [h1,h5,hH,a0e,hlt,hlt']
  exact hR _ trivial
open Go Go.Proofs
def d1j (o:OpV) (st:St):Prop:=st.s 1=.c (.pt (0,1) 0 0)/\st.H (0,1)=.arr 53 11 false [a0e .brw o]/\a0E st.H st.T
theorem c4X {s:List UInt8} {X:List Rn} (hX:runesL s=some X):decide (X=[])=decide (s=[]):=by
 cases s with
 |nil=>cases hX;rfl
 |cons b s=>
  cases X with
  |nil=>
   rw [runesL] at hX
   simp only [List.length_cons,a4Q] at hX
   rw [if_pos (by simp)] at hX
   split at hX
   ·simp at hX
   ·cases hX
  |cons x X=>simp
theorem c1N (o:OpV):a1M o=(nameB o.of_ o.num&&(!decide (o.of_=o.site)||!decide (o.num=o.seq))&&decide (0<=o.gen)&&decide (o.gen<=268435456)&&a2V o.after&&decide (o.text=[])&&decide (o.gone=[])):=by
 have e1:(!decide (o.gen<0))=decide (0<=o.gen):=by by_cases h:o.gen<0<;>simp [h]<;>omega
 have e2:(!decide (268435456<o.gen))=decide (o.gen<=268435456):=by by_cases h:268435456<o.gen<;>simp [h]<;>omega
 rw [a1M,e1,e2,a2V,Bool.not_and]
theorem c4Y {o:OpV} (c1:nameB o.site o.seq=true) (ck:¬o.kind=2):a0v o=(decide (o.kind=1)&&decide (o.of_=0)&&decide (o.num=0)&&decide (o.gen=0)&&!decide (200<o.gone.length)&&!(decide (o.text=[])&&decide (o.gone=[]))&&
  a3W o.text&&decide (a07 o.text<=12)&&a2o o.after&&!(decide (o.text=[])&&!a2V o.after)&&!ownB o o.after&&a3g o none o.gone):=by
 have e1:decide (o.gone.length<=200)=!decide (200<o.gone.length):=by by_cases h:o.gone.length<=200<;>simp [h]<;>omega
 have e2:decide (o.gone.length=0)=decide (o.gone=[]):=by cases o.gone<;>simp
 simp only [a0v,c1,ck,Bool.true_and,decide_false,Bool.false_and]
 by_cases hk:o.kind=1
 ·simp only [hk,if_true,a3X,a4r,e1,e2,b1N,decide_true,Bool.true_and]
  cases a2o o.after<;>cases ownB o o.after<;>cases a3W o.text<;>cases a3g o none o.gone<;>cases decide (o.of_=0)<;>cases decide (o.num=0)<;>cases decide (o.gen=0)<;>cases decide (a07 o.text<=12)<;>cases decide (200<o.gone.length)<;>simp [Bool.and_comm]
 ·simp [hk]
theorem b6m (o:OpV) (h1:o.text.length<1000000) (h2:o.gone.length<4611686018427387904):PEv Tryz.prog 64 [Arg.enc o] (.c (.raw (.bool (a0v o)))):=by
 refine a0f mixed c9i Tryz.func64 sl64 f9C (by kernel_rfl) (by simp) (by simp [a0e]) ?_
 have hfin:∀st',st'.s 2=.c (.raw (.bool (a0v o)))->c2B Tryz.prog Tryz.f64 (.c (.raw (.bool (a0v o)))) .ret st':=fun st' h=>by simp [h]
 have hno:a0v o=false->∀st',st'.s 2=.c (.raw (.bool false))->c2B Tryz.prog Tryz.f64 (.c (.raw (.bool (a0v o)))) .ret st':=fun hm st' h=>hfin st' (by rw [h,hm])
 refine a3z (d1j o) ?_ ?_
 ·intro R' hR
  simp [a0e]
  exact hR _ ⟨by simp,by simp [a0e],by simp;(repeat' (first|exact a1n.mono (Nat.zero_le _)|(refine a0E.set' ?_ (by simp))))⟩
 rintro st ⟨k1,hH,hf⟩
 have hfu:∀k d,st.T<=k->st.H (k,d)=.a0g:=hf
 cases c1:nameB o.site o.seq
 ·refine a4X (fun st'=>st'.s 2=.c (.raw (.bool false))) ?_ (hno (by simp [a0v,c1]))
  intro R' hR
  simp [k1,hH,a0e,c1]
  exact hR _ (by simp)
 refine a3z (d1j o) ?_ ?_
 ·intro R' hR
  simp [k1,hH,a0e,c1]
  exact hR _ ⟨by simp [k1],by simpa [a0e] using hH,by simp;exact hf.mono (by omega)⟩
 clear k1 hH hf hfu
 rintro st ⟨k1,hH,hf⟩
 have hfu:∀k d,st.T<=k->st.H (k,d)=.a0g:=hf
 cases ck:decide (o.kind=2)
 rotate_left
 ·have ck':o.kind=2:=of_decide_eq_true ck
  have hm:a0v o=a1M o:=by simp [a0v,c1,ck']
  refine a4X (fun st'=>st'.s 2=.c (.raw (.bool (a1M o)))) ?_ fun st' h=>hfin st' (by rw [h,hm])
  intro R' hR
  have g1:=c1N o
  cases c2:nameB o.of_ o.num
  ·simp [k1,hH,a0e,ck,c2]
   exact hR _ (by simp [g1,c2])
  cases c3:(!decide (o.of_=o.site)||!decide (o.num=o.seq))
  ·have c3':=Bool.or_eq_false_iff.1 c3
   have c4:decide (o.of_=o.site)=true:=by simpa using c3'.1
   have c5:decide (o.num=o.seq)=true:=by simpa using c3'.2
   simp [k1,hH,a0e,ck,c2,c4,c5]
   exact hR _ (by simp [g1,c2,c4,c5])
  cases c6:decide (0<=o.gen)
  ·cases c4:decide (o.of_=o.site)
   ·simp [k1,hH,a0e,ck,c2,c4,c6]
    exact hR _ (by simp [g1,c6])
   ·have c5:decide (o.num=o.seq)=false:=by simpa [c4] using c3
    simp [k1,hH,a0e,ck,c2,c4,c5,c6]
    exact hR _ (by simp [g1,c6])
  cases c4:decide (o.of_=o.site)
  ·cases c7:decide (o.gen<=268435456)
   ·simp [k1,hH,a0e,ck,c2,c4,c6,c7]
    exact hR _ (by simp [g1,c7])
   cases c8:a2V o.after
   ·simp [k1,hH,a0e,ck,c2,c4,c6,c7,c8]
    exact hR _ (by simp [g1,c8])
   cases c9:decide (o.text=[])
   ·simp [k1,hH,a0e,ck,c2,c4,c6,c7,c8,c9]
    exact hR _ (by simp [g1,c9])
   ·simp [k1,hH,a0e,ck,c2,c4,c6,c7,c8,c9]
    exact hR _ (by simp [g1,c2,c4,c6,c7,c8,c9])
  ·have c5:decide (o.num=o.seq)=false:=by simpa [c4] using c3
   cases c7:decide (o.gen<=268435456)
   ·simp [k1,hH,a0e,ck,c2,c4,c5,c6,c7]
    exact hR _ (by simp [g1,c7])
   cases c8:a2V o.after
   ·simp [k1,hH,a0e,ck,c2,c4,c5,c6,c7,c8]
    exact hR _ (by simp [g1,c8])
   cases c9:decide (o.text=[])
   ·simp [k1,hH,a0e,ck,c2,c4,c5,c6,c7,c8,c9]
    exact hR _ (by simp [g1,c9])
   ·simp [k1,hH,a0e,ck,c2,c4,c5,c6,c7,c8,c9]
    exact hR _ (by simp [g1,c2,c4,c5,c6,c7,c8,c9])
 have ck':¬o.kind=2:=of_decide_eq_false ck
 have hm:=c4Y c1 ck'
 refine a3z (d1j o) ?_ ?_
 ·intro R' hR
  simp [k1,hH,a0e,ck]
  exact hR _ ⟨by simp [k1],by simpa [a0e] using hH,by simp;exact hf.mono (by omega)⟩
 clear k1 hH hf hfu
 rintro st ⟨k1,hH,hf⟩
 have hfu:∀k d,st.T<=k->st.H (k,d)=.a0g:=hf
 cases d2:decide (o.kind=1)
 ·refine a4X (fun st'=>st'.s 2=.c (.raw (.bool false))) ?_ (hno (by simp [hm,d2]))
  intro R' hR
  simp [k1,hH,a0e,d2]
  exact hR _ (by simp)
 cases d3:decide (o.of_=0)
 ·refine a4X (fun st'=>st'.s 2=.c (.raw (.bool false))) ?_ (hno (by simp [hm,d3]))
  intro R' hR
  simp [k1,hH,a0e,d2,d3]
  exact hR _ (by simp)
 cases d4:decide (o.num=0)
 ·refine a4X (fun st'=>st'.s 2=.c (.raw (.bool false))) ?_ (hno (by simp [hm,d4]))
  intro R' hR
  simp [k1,hH,a0e,d2,d3,d4]
  exact hR _ (by simp)
 cases d5:decide (o.gen=0)
 ·refine a4X (fun st'=>st'.s 2=.c (.raw (.bool false))) ?_ (hno (by simp [hm,d5]))
  intro R' hR
  simp [k1,hH,a0e,d2,d3,d4,d5]
  exact hR _ (by simp)
 cases d6:decide (200<o.gone.length)
 rotate_left
 ·have d6':(200:Int)<o.gone.length:=by have:=of_decide_eq_true d6;omega
  refine a4X (fun st'=>st'.s 2=.c (.raw (.bool false))) ?_ (hno (by simp [hm,d6]))
  intro R' hR
  simp [k1,hH,a0e,d2,d3,d4,d5,d6']
  exact hR _ (by simp)
 have d6':¬(200:Int)<o.gone.length:=by have:=of_decide_eq_false d6;omega
 have hg200:o.gone.length<=200:=by have:=of_decide_eq_false d6;omega
 cases d7:(decide (o.text=[])&&decide (o.gone=[]))
 rotate_left
 ·obtain ⟨d8,d9⟩:=Bool.and_eq_true_iff.1 d7
  refine a4X (fun st'=>st'.s 2=.c (.raw (.bool false))) ?_ (hno (by simp [hm,d8,d9]))
  intro R' hR
  simp [k1,hH,a0e,d2,d3,d4,d5,d6',d8,d9]
  exact hR _ (by simp)
 refine a3z (d1j o) ?_ ?_
 ·intro R' hR
  cases d8:decide (o.text=[])
  ·simp [k1,hH,a0e,d2,d3,d4,d5,d6',d8]
   exact hR _ ⟨by simp [k1],by simpa [a0e] using hH,by simp;exact hf.mono (by omega)⟩
  ·have d9:decide (o.gone=[])=false:=by simpa [d8] using d7
   simp [k1,hH,a0e,d2,d3,d4,d5,d6',d8,d9]
   exact hR _ ⟨by simp [k1],by simpa [a0e] using hH,by simp;exact hf.mono (by omega)⟩
 clear k1 hH hf hfu
 rintro st ⟨k1,hH,hf⟩
 have hfu:∀k d,st.T<=k->st.H (k,d)=.a0g:=hf
 have htx:=a99 o.text
 cases hx:runesL o.text with
 |none=>
  rw [hx] at htx
  have hav:a1c o.text=.t [(false,[.nw 21 1 []]),(false,[.raw (.bool false)])]:=by rw [a1c,hx]
  obtain ⟨p1,p2,p3⟩:=hf.arr hH
  refine a3z (fun st'=>d1j o st'/\st'.s 4=.c (.raw (.bool false))) ?_ ?_
  ·intro R' hR
   simp [k1,hH,a0e,h1,hav,hfu]
   exact hR _ ⟨⟨by simp [k1],by simpa [a0e,p2] using hH,by simp;repeat' (first|exact hf.mono (by first|omega|(simp<;>omega))|(refine a0E.set' ?_ (by first|omega|(simp<;>omega))))⟩,by simp⟩
  rintro st ⟨⟨k1,hH,hf⟩,k4⟩
  refine a4X (fun st'=>st'.s 2=.c (.raw (.bool false))) ?_ (hno (by simp [hm,htx]))
  intro R' hR
  simp [k1,k4,hH,a0e]
  exact hR _ (by simp)
 |some X=>
  rw [hx] at htx
  have hav:a1c o.text=.t [(false,[.nw 21 1 (a0a X)]),(false,[.raw (.bool true)])]:=by rw [a1c,hx]
  have hn:=b1O hx
  have hX0:=c4X hx
  have hXl:decide (X.length=0)=decide (o.text=[]):=by rw [<-hX0];cases X<;>simp
  obtain ⟨p1,p2,p3⟩:=hf.arr hH
  refine a3z (fun st'=>d1j o st'/\st'.s 4=.c (.raw (.bool true))/\∃g,st'.s 3=.c (.so g 0 X.length)/\st'.H g=.arr 21 1 false (a0a X)) ?_ ?_
  ·intro R' hR
   simp [k1,hH,a0e,h1,hav,hfu]
   exact hR _ ⟨⟨by simp [k1],by simpa [a0e,p2] using hH,by simp;repeat' (first|exact hf.mono (by first|omega|(simp<;>omega))|(refine a0E.set' ?_ (by first|omega|(simp<;>omega))))⟩,by simp,_,by simp;rfl,by simp⟩
  clear k1 hH hf hfu p1 p2 p3
  rintro st ⟨⟨k1,hH,hf⟩,k4,g,k3,hg⟩
  have hfu:∀k d,st.T<=k->st.H (k,d)=.a0g:=hf
  cases d10:decide (a07 o.text<=12)
  ·have c9K:(12:Int)<X.length:=by have:=of_decide_eq_false d10;omega
   refine a4X (fun st'=>st'.s 2=.c (.raw (.bool false))) ?_ (hno (by simp [hm,d10]))
   intro R' hR
   simp [k1,k3,k4,hg,hH,a0e,c9K]
   exact hR _ (by simp)
  have c9K:¬(12:Int)<X.length:=by have:=of_decide_eq_true d10;omega
  cases d11:a2o o.after
  ·refine a4X (fun st'=>st'.s 2=.c (.raw (.bool false))) ?_ (hno (by simp [hm,d11]))
   intro R' hR
   simp [k1,k3,k4,hg,hH,a0e,c9K,d11]
   exact hR _ (by simp)
  cases d12:(decide (o.text=[])&&!a2V o.after)
  rotate_left
  ·obtain ⟨d13,d14⟩:=Bool.and_eq_true_iff.1 d12
   rw [Bool.not_eq_true'] at d14
   have d15:X=[]:=by rw [d13] at hX0;exact of_decide_eq_true hX0
   refine a4X (fun st'=>st'.s 2=.c (.raw (.bool false))) ?_ (hno (by simp [hm,d13,d14]))
   intro R' hR
   subst d15
   simp [k1,k3,k4,hg,hH,a0e,c9K,d11,d14]
   exact hR _ (by simp)
  cases d16:ownB o o.after
  rotate_left
  ·refine a4X (fun st'=>st'.s 2=.c (.raw (.bool false))) ?_ (hno (by simp [hm,d16]))
   intro R' hR
   cases d13:decide (X=[])
   ·simp [k1,k3,k4,hg,hH,a0e,c9K,d11,d13,d16]
    exact hR _ (by simp)
   ·have d14:a2V o.after=true:=by rw [hX0] at d13;simpa [d13] using d12
    simp [k1,k3,k4,hg,hH,a0e,c9K,d11,d13,d14,d16]
    exact hR _ (by simp)
  refine a3z (d1j o) ?_ ?_
  ·intro R' hR
   cases d13:decide (X=[])
   ·simp [k1,k3,k4,hg,hH,a0e,c9K,d11,d13,d16]
    exact hR _ ⟨by simp [k1],by simpa [a0e] using hH,by simp;exact hf.mono (by omega)⟩
   ·have d14:a2V o.after=true:=by rw [hX0] at d13;simpa [d13] using d12
    simp [k1,k3,k4,hg,hH,a0e,c9K,d11,d13,d14,d16]
    exact hR _ ⟨by simp [k1],by simpa [a0e] using hH,by simp;exact hf.mono (by omega)⟩
  clear k1 k3 k4 hg hH hf hfu
  rintro st ⟨k1,hH,hf⟩
  have hfu:∀k d,st.T<=k->st.H (k,d)=.a0g:=hf
  have hm2:a0v o=a3g o none o.gone:=by
   have g08:(!decide (o.text=[])||a2V o.after)=true:=by
    have:=congrArg (!·) d12
    simpa using this
   rw [hm,htx,d2,d3,d4,d5,d6,d7,d10,d11,d12,d16]
   simp
  simp
  refine c7N o hg200 (by simp [k1]) (by simp) (by simpa using hH) (by simp;exact hf.mono (by omega)) (fun hg st'=>?_) (fun hg st' h=>?_)
  ·simp [hm2,hg]
  ·simp [h,hm2,hg]
open Go Go.Proofs
def b7Z:List AV->Option (Prop×AV):=t1 (fun o=>o.text.length<1000000/\o.gone.length<4611686018427387904) fun o:OpV=>.c (.raw (.bool (a0v o)))
@[simp] theorem e4o {l:List AV}:b7Z l=(t1 (fun o=>o.text.length<1000000/\o.gone.length<4611686018427387904) fun o:OpV=>.c (.raw (.bool (a0v o)))) l:=(rfl)
def FH6:CT:=(64,.pu b7Z)::FH5
theorem c9j:a1k Tryz.prog FH6:=⟨a0n fun o h=>b6m o h.1 h.2,c9i⟩
@[simp] theorem d8Y:a0c FH6 64=some (.pu b7Z):=(rfl)
@[simp] theorem e4p {n:Nat} (h:(n==64)=false):a0c FH6 n=a0c FH5 n:=by
 simp only [Bool.or_eq_false_iff,beq_eq_false_iff_ne,ne_eq] at h
 simp [FH6,a0c,h]
theorem b70 (e:a0i) (h1:e.op.text.length<1000000) (h2:e.op.gone.length<4611686018427387904):PEv Tryz.prog 145 [Arg.enc e] (.c (.raw (.bool (a0J e)))):=by
 refine a0f mixed c9j Tryz.func145 e91 e92 (by kernel_rfl) (by simp) (by simp [a0m,a0e]) ?_
 have hz:a2L e.op ⟨0,0,0,⟨0,0,0⟩,[],[],0,0,0⟩=a2L e.op a0C:=rfl
 cases c1:e.join
 ·have hm:a0J e=(decide (e.a0H=0)&&a0v e.op):=by simp [a0J,c1]
  cases c2:decide (e.a0H=0)
  ·simp [d0N,a0m,a0e,c1,c2,hm]
  ·simp [d0N,a0m,a0e,c1,c2,hm,h1,h2]
 ·have hm:a0J e=(decide (1<=e.a0H)&&decide (e.a0H<=268435456)&&a2L e.op a0C):=by simp [a0J,c1]
  cases c2:decide (1<=e.a0H)
  ·simp [d0N,a0m,a0e,c1,c2,hm]
  cases c3:decide (e.a0H<=268435456)
  ·simp [d0N,a0m,a0e,c1,c2,c3,hm]
  ·simp [d0N,a0m,a0e,c1,c2,c3,hm,h2,hz]
def a1q (r:RdV):Int×RdV:=match r.bad,takeN r.s with
 |false,some (n,t)=>((n:Int),⟨t,false⟩)
 |_,_=>(0,⟨r.s,true⟩)
def a2p (r:RdV):List UInt8×RdV:=match r.bad,decide ((a0Q r.s).2.2=0) with
 |false,true=>((a0Q r.s).1,⟨(a0Q r.s).2.1,false⟩)
 |_,_=>([],⟨r.s,true⟩)
theorem c7O:a5C Tryz.prog 210 (mh1 220 2 (rdG okR a1q b0K)):=by
 refine a4P c4S Tryz.func210 f1C f1D (by kernel_rfl) (by simp [b0K]) fun H T id r hid hf hr=>?_
 obtain ⟨s,bad⟩:=r
 have hr':s.length<4611686018427387904:=hr
 have hfu:∀k d,T<=k->H (k,d)=.a0g:=hf
 cases hn:takeN s with
 |none=>
  have hav:=a3a hn
  cases bad
  ·simp [d2L,hid,hfu,hr',a0Z,hav]
   refine ⟨by simp [b0K,a1q,hn],?_,by simp [a1q,hn]⟩
   (repeat' (first|exact a0z.refl _ _|assumption|(refine a0z.set ?_ (by first|(right;simp;done)|(left;simp [hfu];done)|(left;exact hfu _ _ (by omega))|(left;assumption)))))
  ·simp [d2L,hid,hfu,hr',a0Z,hav]
   refine ⟨by simp [b0K,a1q,hn],?_,by simp [a1q,hn]⟩
   (repeat' (first|exact a0z.refl _ _|assumption|(refine a0z.set ?_ (by first|(right;simp;done)|(left;simp [hfu];done)|(left;exact hfu _ _ (by omega))|(left;assumption)))))
 |some q=>
  obtain ⟨n,t⟩:=q
  have hav:=a1C hn
  cases bad
  ·simp [d2L,hid,hfu,hr',a0Z,hav]
   refine ⟨by simp [b0K,a1q,hn],?_,by simp [a1q,hn]⟩
   (repeat' (first|exact a0z.refl _ _|assumption|(refine a0z.set ?_ (by first|(right;simp;done)|(left;simp [hfu];done)|(left;exact hfu _ _ (by omega))|(left;assumption)))))
  ·simp [d2L,hid,hfu,hr',a0Z,hav]
   refine ⟨by simp [b0K,a1q,hn],?_,by simp [a1q,hn]⟩
   (repeat' (first|exact a0z.refl _ _|assumption|(refine a0z.set ?_ (by first|(right;simp;done)|(left;simp [hfu];done)|(left;exact hfu _ _ (by omega))|(left;assumption)))))
theorem c4Z:a5C Tryz.prog 212 (mh1 220 2 (rdG okR a2p b6Y)):=by
 refine a4P c4S Tryz.func212 f1H f1I (by kernel_rfl) (by simp [b6Y]) fun H T id r hid hf hr=>?_
 obtain ⟨s,bad⟩:=r
 have hr':s.length<4611686018427387904:=hr
 have hfu:∀k d,T<=k->H (k,d)=.a0g:=hf
 cases hn:decide ((a0Q s).2.2=0)
 ·cases bad
  ·simp [d2M,hid,hfu,hr',a0Z,a1t,hn]
   refine ⟨by simp [b6Y,a2p,hn],?_,by simp [a2p,hn]⟩
   (repeat' (first|exact a0z.refl _ _|assumption|(refine a0z.set ?_ (by first|(right;simp;done)|(left;simp [hfu];done)|(left;exact hfu _ _ (by omega))|(left;assumption)))))
  ·simp [d2M,hid,hfu,hr',a0Z,a1t,hn]
   refine ⟨by simp [b6Y,a2p,hn],?_,by simp [a2p,hn]⟩
   (repeat' (first|exact a0z.refl _ _|assumption|(refine a0z.set ?_ (by first|(right;simp;done)|(left;simp [hfu];done)|(left;exact hfu _ _ (by omega))|(left;assumption)))))
 ·cases bad
  ·simp [d2M,hid,hfu,hr',a0Z,a1t,hn]
   refine ⟨by simp [b6Y,a2p,hn],?_,by simp [a2p,hn]⟩
   (repeat' (first|exact a0z.refl _ _|assumption|(refine a0z.set ?_ (by first|(right;simp;done)|(left;simp [hfu];done)|(left;exact hfu _ _ (by omega))|(left;assumption)))))
  ·simp [d2M,hid,hfu,hr',a0Z,a1t,hn]
   refine ⟨by simp [b6Y,a2p,hn],?_,by simp [a2p,hn]⟩
   (repeat' (first|exact a0z.refl _ _|assumption|(refine a0z.set ?_ (by first|(right;simp;done)|(left;simp [hfu];done)|(left;exact hfu _ _ (by omega))|(left;assumption)))))
def b32:MH:=mh1 220 2 (rdG okR a1q b0K)
@[simp] theorem d8Z {H:Heap} {l:List AV}:b32 H l=(mh1 220 2 (rdG okR a1q b0K)) H l:=(rfl)
def b33:MH:=mh1 220 2 (rdG okR a2p b6Y)
@[simp] theorem d9a {H:Heap} {l:List AV}:b33 H l=(mh1 220 2 (rdG okR a2p b6Y)) H l:=(rfl)
def FJ0:CT:=(210,.mu b32)::(212,.mu b33)::FH6
theorem c9k:a1k Tryz.prog FJ0:=⟨c7O,
 c4Z,c9j⟩
@[simp] theorem d4h:a0c FJ0 210=some (.mu b32):=(rfl)
@[simp] theorem d4i:a0c FJ0 212=some (.mu b33):=(rfl)
@[simp] theorem e4q {n:Nat} (h:(n==210||n==212)=false):a0c FJ0 n=a0c FH6 n:=by
 simp only [Bool.or_eq_false_iff,beq_eq_false_iff_ne,ne_eq] at h
 simp [FJ0,a0c,h]
def a2O (r:RdV):a0F×RdV:=
 let a:=a1q r
 let b:=a1q a.2
 let c:=a1q b.2
 (⟨a.1,b.1,c.1⟩,c.2)
theorem a4R (r:RdV):(a1q r).2.s.length<=r.s.length:=by
 obtain ⟨s,bad⟩:=r
 cases hn:takeN s with
 |none=>cases bad<;>simp [a1q,hn]
 |some q=>
  obtain ⟨n,t⟩:=q
  have:=(a16 hn).2
  cases bad<;>simp [a1q,hn]<;>omega
theorem b6n (r:RdV):(a2p r).2.s.length<=r.s.length/\(a2p r).1.length<=r.s.length:=by
 obtain ⟨s,bad⟩:=r
 have:=a7G s
 cases hn:decide ((a0Q s).2.2=0)<;>cases bad<;>simp [a2p,hn]<;>omega
theorem a3C {r:RdV} (h:okR r):okR (a1q r).2:=Nat.lt_of_le_of_lt (a4R r) h
theorem c40 {r:RdV} (h:okR r):okR (a2p r).2:=Nat.lt_of_le_of_lt (b6n r).1 h
theorem c41 {r:RdV} (h:okR r):okR (a2O r).2:=a3C (a3C (a3C h))
theorem c42:a5C Tryz.prog 211 (mh1 220 2 (rdG okR a2O b1B)):=by
 refine a4P c9k Tryz.func211 f1F f1G (by kernel_rfl) (by simp [b1B]) fun H T id r hid hf hr=>?_
 obtain ⟨n1,n2,n3⟩:=hf.arr hid
 have hfu:∀k d,T<=k->H (k,d)=.a0g:=hf
 have c1:=a3C hr
 have c2:=a3C c1
 obtain ⟨s,bad⟩:=r
 rcases e1:a1q ⟨s,bad⟩ with ⟨a1,s1,b1⟩
 rw [e1] at c1 c2
 simp only at c1 c2
 rcases e2:a1q ⟨s1,b1⟩ with ⟨a2,s2,b2⟩
 rw [e2] at c2
 simp only at c2
 rcases e3:a1q ⟨s2,b2⟩ with ⟨a3,s3,b3⟩
 have e4:a2O ⟨s,bad⟩=(⟨a1,a2,a3⟩,⟨s3,b3⟩):=by simp [a2O,e1,e2,e3]
 simp [f1E,hid,hfu,hr,c1,c2,e1,e2,e3,e4,a0Z,b0K,b1B,n1,n2]
 (repeat' (first|exact a0z.refl _ _|assumption|(refine a0z.set ?_ (by first|(right;simp;done)|(left;simp [hfu];done)|(left;exact hfu _ _ (by omega))|(left;assumption)))))
def b34:MH:=mh1 220 2 (rdG okR a2O b1B)
@[simp] theorem d9b {H:Heap} {l:List AV}:b34 H l=(mh1 220 2 (rdG okR a2O b1B)) H l:=(rfl)
def FJ1:CT:=(211,.mu b34)::FJ0
theorem c9l:a1k Tryz.prog FJ1:=⟨c42,c9k⟩
@[simp] theorem d4j:a0c FJ1 211=some (.mu b34):=(rfl)
@[simp] theorem e4r {n:Nat} (h:(n==211)=false):a0c FJ1 n=a0c FJ0 n:=by
 simp only [Bool.or_eq_false_iff,beq_eq_false_iff_ne,ne_eq] at h
 simp [FJ1,a0c,h]
open Go Go.Proofs
def a0S:Nat->RdV->List a0F×RdV
 |0,r=>([],r)
 |n+1,r=>if (a0S n r).2.bad=true then a0S n r else ((a0S n r).1++[(a2O (a0S n r).2).1],(a2O (a0S n r).2).2)
theorem a6Z {r:RdV} {i:Nat} (h:(a0S i r).2.bad=true):∀k,a0S (i+k) r=a0S i r
 |0=>rfl
 |k+1=>by
  rw [<-Nat.add_assoc,a0S,a6Z h k,if_pos h]
theorem a8o {r:RdV} {i:Nat} (h:(a0S i r).2.bad=false):a0S (i+1) r=((a0S i r).1++[(a2O (a0S i r).2).1],(a2O (a0S i r).2).2):=by
 rw [a0S,h];rfl
theorem b0b {r:RdV} (h:(a1q r).2.bad=false):r.bad=false/\(a1q r).2.s.length<r.s.length:=by
 obtain ⟨s,bad⟩:=r
 cases hn:takeN s with
 |none=>cases bad<;>simp [a1q,hn] at h
 |some q=>
  obtain ⟨n,t⟩:=q
  have:=(a16 hn).2
  cases bad<;>simp [a1q,hn] at h ⊢
  exact this
theorem b6o (r:RdV):(a2O r).2.s.length<=r.s.length:=
 Nat.le_trans (a4R _) (Nat.le_trans (a4R _) (a4R _))
theorem c1O {r:RdV} (h:(a2O r).2.bad=false):r.bad=false/\(a2O r).2.s.length<r.s.length:=by
 have h1:=b0b h
 have h2:=b0b h1.1
 have h3:=b0b h2.1
 exact ⟨h3.1,Nat.lt_trans h1.2 (Nat.lt_trans h2.2 h3.2)⟩
theorem a8p (r:RdV):∀i,(a0S i r).2.s.length<=r.s.length
 |0=>Nat.le_refl _
 |i+1=>by
  rw [a0S]
  split
  ·exact a8p r i
  ·exact Nat.le_trans (b6o _) (a8p r i)
theorem a61 (r:RdV):∀i,(a0S i r).2.bad=false->(a0S i r).1.length=i/\(a0S i r).2.s.length+i<=r.s.length
 |0,_=>⟨rfl,Nat.le_refl _⟩
 |i+1,h=>by
  cases hb:(a0S i r).2.bad
  ·rw [a8o hb] at h ⊢
   obtain ⟨h1,h2⟩:=a61 r i hb
   have h3:=(c1O h).2
   simp only at h3 ⊢
   refine ⟨by simp [h1],by omega⟩
  ·rw [a6Z hb 1,hb] at h
   cases h
def b71 (r:RdV):OpV×RdV:=
 let a:=a1q r
 let b:=a1q a.2
 let c:=a1q b.2
 if c.1=2 then
  let d:=a1q c.2
  let e:=a1q d.2
  let f:=a1q e.2
  (⟨a.1,b.1,c.1,⟨0,0,0⟩,[],[],d.1,e.1,f.1⟩,⟨f.2.s,f.2.bad||!a0v ⟨a.1,b.1,c.1,⟨0,0,0⟩,[],[],d.1,e.1,f.1⟩⟩)
 else
  let d:=a2O c.2
  let e:=a2p d.2
  let f:=a1q e.2
  let g:=a0S f.1.toNat f.2
  (⟨a.1,b.1,c.1,d.1,e.1,g.1,0,0,0⟩,⟨g.2.s,g.2.bad||!a0v ⟨a.1,b.1,c.1,d.1,e.1,g.1,0,0,0⟩⟩)
theorem c7P (r:RdV):0<=(a1q r).1/\(a1q r).1<=268435456:=by
 obtain ⟨s,bad⟩:=r
 cases hn:takeN s with
 |none=>cases bad<;>simp [a1q,hn]
 |some q=>
  obtain ⟨n,t⟩:=q
  have:=(a16 hn).1
  cases bad<;>simp [a1q,hn]<;>omega
def TkI (H:Heap) (T:Nat) (id:Id) (m:Nat) (r6:RdV) (a1 a2 a3 x1 x2 x3:Int) (tx:List UInt8) (q:Nat) (st:St):Prop:=∃(i:Nat) (g:AC),i<=m/\q=m-i/\(a0S i r6).1.length=i/\i<=r6.s.length+1/\
 st.s 0=.c (.pt id 0 0)/\st.s 2=.c (.pt (T,2) 0 0)/\st.s 3=.c (.pt (T+1,3) 0 0)/\st.s 4=.c (.raw (.int .i64 m))/\st.s 5=.c (.raw (.int .i64 i))/\
 st.H id=.arr 220 2 false [a0Z (a0S i r6).2]/\st.H (T,2)=.arr 53 11 false [a0K (.raw (.slice none 0 0)) ⟨0,0,0,⟨0,0,0⟩,[],[],0,0,0⟩]/\st.H (T+1,3)=.arr 53 11 false [a0K g ⟨a1,a2,a3,⟨x1,x2,x3⟩,tx,[],0,0,0⟩]/\
 ((g=.raw (.slice none 0 0)/\i=0)\/∃j,g=.so j 0 i/\H j=.a0g/\st.H j=.arr 50 3 false (a0a (a0S i r6).1))/\a0z [id] H st.H/\T+1<st.T/\a0E st.H st.T
def okT (r:RdV):Prop:=r.s.length<1000000
theorem d1k:a5C Tryz.prog 185 (mh1 220 2 (rdG okT b71 b48)):=by
 refine a4P c9l Tryz.func185 f0X f0Y (by kernel_rfl) (by simp [b48,a0K]) fun H T id r hid hf hrT=>?_
 obtain ⟨n1,n2,n3⟩:=hf.arr hid
 have hfu:∀k d,T<=k->H (k,d)=.a0g:=hf
 have hr:okR r:=Nat.lt_of_lt_of_le hrT (by decide)
 have c1:=a3C hr
 have c2:=a3C c1
 have c3:=a3C c2
 have w1:=a4R r
 have w2:=a4R (a1q r).2
 have w3:=a4R (a1q (a1q r).2).2
 have g0p:r.s.length<1000000:=hrT
 obtain ⟨s,bad⟩:=r
 rcases e1:a1q ⟨s,bad⟩ with ⟨a1,s1,b1⟩
 rw [e1] at c1 c2 c3 w1 w2 w3
 simp only at c1 c2 c3 w1 w2 w3
 rcases e2:a1q ⟨s1,b1⟩ with ⟨a2,s2,b2⟩
 rw [e2] at c2 c3 w2 w3
 simp only at c2 c3 w2 w3
 rcases e3:a1q ⟨s2,b2⟩ with ⟨a3,s3,b3⟩
 rw [e3] at c3 w3
 simp only at c3 w3 g0p
 cases k:decide (a3=2)
 rotate_left
 ·have k':=of_decide_eq_true k
  have c4:=a3C c3
  have c5:=a3C c4
  rcases e4:a1q ⟨s3,b3⟩ with ⟨a4,s4,b4⟩
  rw [e4] at c4 c5
  simp only at c4 c5
  rcases e5:a1q ⟨s4,b4⟩ with ⟨a5,s5,b5⟩
  rw [e5] at c5
  simp only at c5
  rcases e6:a1q ⟨s5,b5⟩ with ⟨a6,s6,b6⟩
  generalize ho:(⟨a1,a2,a3,⟨0,0,0⟩,[],[],a4,a5,a6⟩:OpV)=o
  have ho1:o.text.length<1000000:=by subst ho;simp
  have ho2:o.gone.length<4611686018427387904:=by subst ho;simp
  have e7:b71 ⟨s,bad⟩=(o,⟨s6,b6||!a0v o⟩):=by subst ho;simp [b71,e1,e2,e3,e4,e5,e6,k']
  cases hmay:a0v o
  ·simp [d6X,hid,hfu,hr,c1,c2,c3,c4,c5,e1,e2,e3,e4,e5,e6,e7,a0Z,b0K,b1B,b48,n1,n2,k,ho,ho1,ho2,hmay]
   refine ⟨by subst ho;simp [a0K],?_⟩
   (repeat' (first|exact a0z.refl _ _|assumption|(refine a0z.set ?_ (by first|(right;simp;done)|(left;simp [hfu];done)|(left;exact hfu _ _ (by omega))|(left;assumption)))))
  ·simp [d6X,hid,hfu,hr,c1,c2,c3,c4,c5,e1,e2,e3,e4,e5,e6,e7,a0Z,b0K,b1B,b48,n1,n2,k,ho,ho1,ho2,hmay]
   refine ⟨by subst ho;simp [a0K],?_⟩
   (repeat' (first|exact a0z.refl _ _|assumption|(refine a0z.set ?_ (by first|(right;simp;done)|(left;simp [hfu];done)|(left;exact hfu _ _ (by omega))|(left;assumption)))))
 ·have k':¬a3=2:=of_decide_eq_false k
  have c4:=c41 c3
  have c5:=c40 c4
  have c6:=a3C c5
  have w4:=b6o ⟨s3,b3⟩
  have w5:=b6n (a2O ⟨s3,b3⟩).2
  have w6:=a4R (a2p (a2O ⟨s3,b3⟩).2).2
  rcases e4:a2O ⟨s3,b3⟩ with ⟨⟨x1,x2,x3⟩,s4,b4⟩
  rw [e4] at c4 c5 c6 w4 w5 w6
  simp only at c4 c5 c6 w4 w5 w6
  rcases e5:a2p ⟨s4,b4⟩ with ⟨tx,s5,b5⟩
  rw [e5] at c5 c6 w5 w6
  simp only at c5 c6 w5 w6
  obtain ⟨hn0,hn1⟩:=c7P ⟨s5,b5⟩
  rcases e6:a1q ⟨s5,b5⟩ with ⟨n,s6,b6⟩
  rw [e6] at c6 hn0 hn1 w6
  simp only at c6 hn0 hn1 w6
  obtain ⟨m,hm⟩:∃m,m=n.toNat:=⟨_,rfl⟩
  have hmi:n=(m:Int):=by omega
  have htx:tx.length<1000000:=by omega
  have hs6:s6.length<1000000:=by omega
  generalize ho:(⟨a1,a2,a3,⟨x1,x2,x3⟩,tx,(a0S m ⟨s6,b6⟩).1,0,0,0⟩:OpV)=o
  have e7:b71 ⟨s,bad⟩=(o,⟨(a0S m ⟨s6,b6⟩).2.s,(a0S m ⟨s6,b6⟩).2.bad||!a0v o⟩):=by simp [b71,e1,e2,e3,e4,e5,e6,k',ho,<-hm]
  simp [d6X,hid,hfu,hr,c1,c2,c3,c4,c5,c6,e1,e2,e3,e4,e5,e6,e7,a0Z,b0K,b1B,b48,b6Y,n1,n2,k,hmi]
  obtain ⟨r6,hr6⟩:∃r6:RdV,r6=⟨s6,b6⟩:=⟨_,rfl⟩
  have hl6:r6.s.length<1000000:=by rw [hr6];exact hs6
  rw [<-hr6] at ho e7 c6 ⊢
  refine a6I (TkI H T id m r6 a1 a2 a3 x1 x2 x3 tx) m ?_ ?_
  ·refine ⟨0,.raw (.slice none 0 0),by omega,by omega,?_⟩
   simp [n1,n2,hid,a0S,a0Z,a0K,hr6]
   refine ⟨?_,?_⟩
   ·(repeat' (first|exact a0z.refl _ _|assumption|(refine a0z.set ?_ (by first|(right;simp;done)|(left;simp [hfu];done)|(left;exact hfu _ _ (by omega))|(left;assumption)))))
   ·repeat' (first|exact hf.mono (by first|omega|(simp<;>omega))|(refine a0E.set' ?_ (by first|omega|(simp<;>omega))))
  rintro q st ⟨i,g,hi,rfl,li,lr,q0,q2,q3,q4,q5,h1,h2,h3,hg,hsb,hT,hf'⟩ J hJ
  have b6W:∀k d,st.T<=k->st.H (k,d)=.a0g:=hf'
  have ci:okR (a0S i r6).2:=Nat.lt_of_le_of_lt (a8p r6 i) (Nat.lt_of_lt_of_le hl6 (by decide))
  have hbad:=fun h=>a6Z (r:=r6) (i:=i) h (m-i)
  rw [show i+(m-i)=m by omega] at hbad
  have hgo:=a8o (r:=r6) (i:=i)
  have hlen:=a61 r6 i
  rcases er:(a0S i r6).2 with ⟨si,bi⟩
  rw [er] at h1 ci hbad hgo hlen
  simp only at hbad hgo hlen
  have more:(i<m/\bi=false)\/((i=m\/bi=true)/\a0S m r6=a0S i r6):=by
   by_cases hlt:i<m
   ·cases hb:bi
    ·exact .inl ⟨hlt,rfl⟩
    ·exact .inr ⟨.inr rfl,hbad hb⟩
   ·exact .inr ⟨.inl (by omega),by rw [show m=i by omega]⟩
  rcases more with ⟨hlt,rfl⟩|⟨hend,hme⟩
  ·have hlt':(i:Int)<m:=by omega
   have hw:IntKind.wrap .i64 ((i:Int)+1)=((i+1:Nat):Int):=by rw [a0d]<;>omega
   obtain ⟨li1,li2⟩:=hlen rfl
   have hgo:=hgo rfl
   rcases e8:a2O ⟨si,false⟩ with ⟨⟨y1,y2,y3⟩,s9,b9⟩
   rw [e8] at hgo
   have ht:a0a (a0S (i+1) r6).1=a0a (a0S i r6).1++[Enc.row (⟨y1,y2,y3⟩:a0F)]:=by rw [hgo,a4h]
   have f5W:(a0S (i+1) r6).1.length=i+1:=by rw [hgo];simp [li]
   obtain ⟨p1,p2,p3⟩:=hf'.arr h1
   obtain ⟨p4,p5,p6⟩:=hf'.arr h3
   have d1:=n2 (T+1) 3 (by omega)
   have d2:=n1 (T+1) 3 (by omega)
   rcases hg with ⟨rfl,rfl⟩|⟨j,rfl,hju,hj⟩
   ·simp [c0d,q0,q2,q3,q4,q5,h1,h2,h3,hlt,hlt',hw,b6W,ci,e8,b1B,a0Z,a0K,p1,p2,p4,p5,d1,d2]
    refine ⟨by omega,m-1,by omega,hJ _ _ ⟨1,.so (st.T+1,50) 0 1,by omega,rfl,f5W,by omega,by simp [q0],by simp [q2],by simp [q3],by simp [q4],by simp;decide,?_,?_,?_,.inr ⟨(st.T+1,50),rfl,hfu _ _ (by omega),?_⟩,?_,by simp;omega,?_⟩⟩
    ·simp [p1,p2,d1,d2,a0Z,hgo]
    ·simp [h2,n1,n2,hT,p1,p2]
    ·simp [a0K]
    ·show _=OK.arr _ _ _ (a0a (a0S (0+1) r6).1)
     rw [ht]
     simp [p1,p2,p4,p5,a0S]
    ·simp
     (repeat' (first|exact a0z.refl _ _|assumption|(refine a0z.set ?_ (by first|(right;simp;done)|(left;simp [hfu];done)|(left;exact hfu _ _ (by omega))|(left;assumption)))))
    ·simp
     have hf:=hf'
     repeat' (first|exact hf.mono (by first|omega|(simp<;>omega))|(refine a0E.set' ?_ (by first|omega|(simp<;>omega))))
   ·obtain ⟨p7,p8,p9⟩:=hf'.arr hj
    have ne:∀{x:Id} {e sz:Nat} {f:Bool} {rows:List (List AC)},st.H x=.arr e sz f rows->e≠50->(j=x)=False/\(x=j)=False:=by
     intro x e sz f rows hx he
     constructor
     ·simp;rintro rfl;rw [hx] at hj;simp at hj;exact he hj.1
     ·simp;rintro rfl;rw [hx] at hj;simp at hj;exact he hj.1
    obtain ⟨g1,g2⟩:=ne h1 (by decide)
    obtain ⟨g3,g4⟩:=ne h2 (by decide)
    obtain ⟨g5,g6⟩:=ne h3 (by decide)
    simp [c0d,q0,q2,q3,q4,q5,h1,h2,h3,hlt,hlt',hw,b6W,ci,e8,b1B,a0Z,a0K,p1,p2,p4,p5,d1,d2,hj,p7,p8,g1,g2,g3,g4,g5,g6,li]
    refine ⟨⟨by omega,by omega⟩,by omega,m-(i+1),by omega,hJ _ _ ⟨i+1,.so (st.T+1,50) 0 (i+1),by omega,rfl,f5W,by omega,by simp [q0],by simp [q2],by simp [q3],by simp [q4],by simp,?_,?_,?_,.inr ⟨(st.T+1,50),rfl,hfu _ _ (by omega),?_⟩,?_,by simp;omega,?_⟩⟩
    ·simp [p1,p2,d1,d2,a0Z,hgo,g1,g2]
    ·simp [h2,n1,n2,hT,p1,p2,g3,g4]
    ·simp [a0K]
    ·simp [p1,p2,p4,p5,ht]
    ·simp
     (repeat' (first|exact a0z.refl _ _|assumption|(refine a0z.set ?_ (by first|(right;simp;done)|(left;simp [hfu];done)|(left;exact hfu _ _ (by omega))|(left;assumption)))))
    ·simp
     have hf:=hf'
     repeat' (first|exact hf.mono (by first|omega|(simp<;>omega))|(refine a0E.set' ?_ (by first|omega|(simp<;>omega))))
  ·have hex:∀K:AEx->St->Prop,(∀st',st'.s 0=.c (.pt id 0 0)->st'.s 2=.c (.pt (T,2) 0 0)->st'.s 3=.c (.pt (T+1,3) 0 0)->st'.H=st.H->st.T<=st'.T->K (.exit 0) st')->a2S Tryz.prog FJ1 c0d K st:=by
    intro K hK
    refine d0C 0 (fun st'=>st'.s 0=.c (.pt id 0 0)/\st'.s 2=.c (.pt (T,2) 0 0)/\st'.s 3=.c (.pt (T+1,3) 0 0)/\st'.H=st.H/\st.T<=st'.T) ?_ fun st' ⟨a,b,c,d,e⟩=>hK st' a b c d e
    intro R' hR
    by_cases hlt:i<m
    ·have hb:bi=true:=by rcases hend with h|h;omega;exact h
     subst hb
     have hlt':(i:Int)<m:=by omega
     simp [q0,q2,q3,q4,q5,h1,a0Z,hlt,hlt']
     exact hR _ ⟨by simp [q0],by simp [q2],by simp [q3],by simp,by simp⟩
    ·have hlt':¬(i:Int)<m:=by omega
     simp [q0,q2,q3,q4,q5,h1,a0Z,hlt,hlt']
     exact hR _ ⟨by simp [q0],by simp [q2],by simp [q3],by simp,by simp⟩
   refine hex _ fun st' q0 q2 q3 hHe hTe=>?_
   have hfs:a0E st'.H st'.T:=by rw [hHe];exact hf'.mono hTe
   clear hex q4 q5
   rw [<-hHe] at h1 h2 h3 hg hsb
   have hTs:T+1<st'.T:=Nat.lt_of_lt_of_le hT hTe
   clear hHe hTe hf' b6W hT
   have b6W:∀k d,st'.T<=k->st'.H (k,d)=.a0g:=hfs
   have d3:((T,2)=id)=False:=n1 T 2 (Nat.le_refl _)
   have d4:(id=(T,2))=False:=n2 T 2 (Nat.le_refl _)
   obtain ⟨p1,p2,p3⟩:=hfs.arr h1
   have d1:=n2 (T+1) 3 (by omega)
   have d2:=n1 (T+1) 3 (by omega)
   rw [hme,er] at e7
   simp only at e7
   rw [hme] at ho ⊢
   have og:o.gone=(a0S i r6).1:=by rw [<-ho]
   have ho1:o.text.length<1000000:=by rw [<-ho];exact htx
   have ho2:o.gone.length<4611686018427387904:=by rw [og,li];omega
   rcases hg with ⟨rfl,rfl⟩|⟨j,rfl,hju,hj⟩
   ·have ho':(⟨a1,a2,a3,⟨x1,x2,x3⟩,tx,[],0,0,0⟩:OpV)=o:=by rw [<-ho];rfl
    have hx:(a0a o.gone)=[]:=by rw [og];rfl
    cases hmay:a0v o
    ·simp [er,q0,q2,q3,h1,h2,h3,b6W,a0Z,a0K,p1,p2,d1,d2,d3,d4,ho',ho1,ho2,hx,hmay]
     refine ⟨by rw [<-ho];simp,?_⟩
     (repeat' (first|exact a0z.refl _ _|assumption|(refine a0z.set ?_ (by first|(right;simp;done)|(left;simp [hfu];done)|(left;exact hfu _ _ (by omega))|(left;assumption)))))
    ·simp [er,q0,q2,q3,h1,h2,h3,b6W,a0Z,a0K,p1,p2,d1,d2,d3,d4,ho',ho1,ho2,hx,hmay]
     refine ⟨by rw [<-ho];simp,?_⟩
     (repeat' (first|exact a0z.refl _ _|assumption|(refine a0z.set ?_ (by first|(right;simp;done)|(left;simp [hfu];done)|(left;exact hfu _ _ (by omega))|(left;assumption)))))
   ·have ho':(⟨a1,a2,a3,⟨x1,x2,x3⟩,tx,(a0S i r6).1,0,0,0⟩:OpV)=o:=ho
    obtain ⟨p7,p8,p9⟩:=hfs.arr hj
    have ne:∀{x:Id} {e sz:Nat} {f:Bool} {rows:List (List AC)},st'.H x=.arr e sz f rows->e≠50->(j=x)=False/\(x=j)=False:=by
     intro x e sz f rows hx he
     constructor
     ·simp;rintro rfl;rw [hx] at hj;simp at hj;exact he hj.1
     ·simp;rintro rfl;rw [hx] at hj;simp at hj;exact he hj.1
    have htk:List.take i (a0a (a0S i r6).1)=a0a (a0S i r6).1:=List.take_of_length_le (by simp [a0a,li])
    obtain ⟨g1,g2⟩:=ne h1 (by decide)
    obtain ⟨g3,g4⟩:=ne h2 (by decide)
    obtain ⟨g5,g6⟩:=ne h3 (by decide)
    have f5X:i<4611686018427387904:=by omega
    cases hmay:a0v o
    ·simp [er,q0,q2,q3,h1,h2,h3,b6W,a0Z,a0K,p1,p2,d1,d2,d3,d4,ho',ho1,ho2,f5X,hj,p7,p8,g1,g2,g3,g4,g5,g6,li,og,htk,hmay]
     refine ⟨by rw [<-ho];simp,fun a b h=>by rw [h];exact hju,?_⟩
     (repeat' (first|exact a0z.refl _ _|assumption|(refine a0z.set ?_ (by first|(right;simp;done)|(left;simp [hfu];done)|(left;exact hfu _ _ (by omega))|(left;assumption)))))
    ·simp [er,q0,q2,q3,h1,h2,h3,b6W,a0Z,a0K,p1,p2,d1,d2,d3,d4,ho',ho1,ho2,f5X,hj,p7,p8,g1,g2,g3,g4,g5,g6,li,og,htk,hmay]
     refine ⟨by rw [<-ho];simp,fun a b h=>by rw [h];exact hju,?_⟩
     (repeat' (first|exact a0z.refl _ _|assumption|(refine a0z.set ?_ (by first|(right;simp;done)|(left;simp [hfu];done)|(left;exact hfu _ _ (by omega))|(left;assumption)))))
open Go
def Sim (a b:RdV):Prop:=(a.bad=true/\b.bad=true)\/(a.bad=false/\b=a)
def c7Q {α:Type} (x y:α×RdV):Prop:=(x.2.bad=true/\y.2.bad=true)\/(x.2.bad=false/\y=x)
theorem c7Q.sim {α:Type} {x y:α×RdV} (h:c7Q x y):Sim x.2 y.2:=by
 rcases h with h|⟨h,rfl⟩
 ·exact .inl h
 ·exact .inr ⟨h,rfl⟩
theorem a1z {r:RdV} (h:r.bad=true):(rdNum r).2.bad=true:=by simp [rdNum,h]
theorem a62 {r:RdV} (h:r.bad=true):(a1h r).2.bad=true:=by simp [a1h,h]
theorem a63 {r:RdV} (h:r.bad=true):(a1a r).2.bad=true:=a1z (a1z (a1z h))
theorem a3o {r:RdV} (h:r.bad=true):(a1q r).2.bad=true:=by simp [a1q,h]
theorem b0c {r:RdV} (h:r.bad=true):(a2p r).2.bad=true:=by simp [a2p,h]
theorem b72 {r:RdV} (h:r.bad=true):(a2O r).2.bad=true:=a3o (a3o (a3o h))
theorem a6K {a b:RdV} (h:Sim a b):c7Q (rdNum a) (a1q b):=by
 rcases h with ⟨h1,h2⟩|⟨h1,rfl⟩
 ·exact .inl ⟨a1z h1,a3o h2⟩
 ·obtain ⟨s,bad⟩:=b
  simp only at h1
  subst h1
  cases hn:takeN s with
  |none=>left;simp [rdNum,a1q,a1i,hn]
  |some q=>right;simp [rdNum,a1q,a1i,hn]
theorem d1l {a b:RdV} (h:Sim a b):c7Q (a1h a) (a2p b):=by
 rcases h with ⟨h1,h2⟩|⟨h1,rfl⟩
 ·exact .inl ⟨a62 h1,b0c h2⟩
 ·obtain ⟨s,bad⟩:=b
  simp only at h1
  subst h1
  cases hn:decide ((a0Q s).2.2=0)
  ·left;simp [a1h,a2p,hn]
  ·right;simp [a1h,a2p,hn]
theorem c43 {a b:RdV} (h:Sim a b):c7Q (a1a a) (a2O b):=by
 have s1:=a6K h
 have s2:=a6K s1.sim
 have s3:=a6K s2.sim
 rcases s3 with ⟨x,y⟩|⟨x,e3⟩
 ·exact .inl ⟨x,y⟩
 ·right
  refine ⟨x,?_⟩
  rcases s2 with ⟨y,_⟩|⟨y,e2⟩
  ·have:=a1z y;rw [this] at x;cases x
  rcases s1 with ⟨z,_⟩|⟨z,e1⟩
  ·have:=a1z z;rw [this] at y;cases y
  rw [e2] at e3
  simp only [a2O,a1a]
  rw [e2,e3,e1]
theorem c0y {a b:RdV} (h:Sim a b):∀n,c7Q (a0T n a) (a0S n b)
 |0=>by
  rcases h with ⟨h1,h2⟩|⟨h1,rfl⟩
  ·exact .inl ⟨h1,h2⟩
  ·exact .inr ⟨h1,rfl⟩
 |n+1=>by
  rcases c0y h n with ⟨h1,h2⟩|⟨h1,h2⟩
  ·left
   refine ⟨a63 h1,?_⟩
   rw [a0S,if_pos h2]
   exact h2
  ·have hb:(a0S n b).2.bad=false:=by rw [h2];exact h1
   have h3:c7Q (a1a (a0T n a).2) (a2O (a0T n a).2):=c43 (.inr ⟨h1,rfl⟩)
   rw [show a0T (n+1) a=((a0T n a).1++[(a1a (a0T n a).2).1],(a1a (a0T n a).2).2) from rfl,a8o hb,h2]
   rcases h3 with ⟨h4,h5⟩|⟨h4,h5⟩
   ·exact .inl ⟨h4,h5⟩
   ·right
    rw [h5]
    exact ⟨h4,rfl⟩
theorem a6c {r:RdV} (h:r.bad=true):∀n,(a0T n r).2.bad=true
 |0=>h
 |n+1=>a63 (a6c h n)
theorem a4S {r:RdV} (h:r.bad=true):∀n,(a0S n r).2.bad=true
 |0=>h
 |n+1=>by rw [a0S,if_pos (a4S h n)];exact a4S h n
theorem b73 {o:OpV} (h:a0v o=true):o.gone.length<=200:=by
 unfold a0v at h
 simp only [Bool.and_eq_true] at h
 obtain ⟨_,h⟩:=h
 split at h
 ·simp only [a3X,a4r,Bool.and_eq_true,decide_eq_true_eq] at h
  exact h.1.1.1.2.2
 ·simp only [a1M,Bool.and_eq_true,decide_eq_true_eq] at h
  rw [h.2.2];simp
theorem f3k {a b:RdV} (h:Sim a b):c7Q (a7V a) (b71 b):=by
 have s1:=a6K h
 have s2:=a6K s1.sim
 have s3:=a6K s2.sim
 rcases s3 with ⟨x,y⟩|⟨x,e3⟩
 ·left
  have hx:(a7V a).2.bad=true:=by
   simp only [a7V]
   split
   ·have:=a1z (a1z (a1z x))
    simp [this]
   ·have:=a6c (a1z (a62 (a63 x))) (min (rdNum (a1h (a1a (rdNum (rdNum (rdNum a).2).2).2).2).2).1.toNat 200)
    simp [this]
  have hy:(b71 b).2.bad=true:=by
   simp only [b71]
   split
   ·have:=a3o (a3o (a3o y))
    simp [this]
   ·have:=a4S (a3o (b0c (b72 y))) (a1q (a2p (a2O (a1q (a1q (a1q b).2).2).2).2).2).1.toNat
    simp [this]
  exact ⟨hx,hy⟩
 rcases s2 with ⟨y,_⟩|⟨y,e2⟩
 ·have:=a1z y;rw [this] at x;cases x
 rcases s1 with ⟨z,_⟩|⟨z,e1⟩
 ·have:=a1z z;rw [this] at y;cases y
 have e2':a1q (rdNum a).2=rdNum (rdNum a).2:=by rw [e1] at e2;exact e2
 have e3':a1q (rdNum (rdNum a).2).2=rdNum (rdNum (rdNum a).2).2:=by rw [e1,e2'] at e3;exact e3
 have h3:Sim (rdNum (rdNum (rdNum a).2).2).2 (rdNum (rdNum (rdNum a).2).2).2:=.inr ⟨x,rfl⟩
 unfold c7Q
 simp only [a7V,b71,e1,e2',e3']
 generalize hA:(rdNum a).1=A1
 generalize hB:(rdNum (rdNum a).2).1=B1
 generalize hC:rdNum (rdNum (rdNum a).2).2=C at h3
 by_cases hk:C.1=2
 ·simp only [if_pos hk]
  have s4:=a6K h3
  have s5:=a6K s4.sim
  have s6:=a6K s5.sim
  rcases s6 with ⟨u,v⟩|⟨u,e6⟩
  ·left;simp [u,v]
  rcases s5 with ⟨v,_⟩|⟨v,e5⟩
  ·have:=a1z v;rw [this] at u;cases u
  rcases s4 with ⟨w,_⟩|⟨w,e4⟩
  ·have:=a1z w;rw [this] at v;cases v
  have e5':a1q (rdNum C.2).2=rdNum (rdNum C.2).2:=by rw [e4] at e5;exact e5
  have e6':a1q (rdNum (rdNum C.2).2).2=rdNum (rdNum (rdNum C.2).2).2:=by rw [e4,e5'] at e6;exact e6
  simp only [e4,e5',e6']
  rw [u]
  cases hm:a0v ⟨A1,B1,C.1,⟨0,0,0⟩,[],[],(rdNum C.2).1,(rdNum (rdNum C.2).2).1,(rdNum (rdNum (rdNum C.2).2).2).1⟩
  ·left;simp
  ·right;simp
 ·simp only [if_neg hk]
  have s4:=c43 h3
  have s5:=d1l s4.sim
  have s6:=a6K s5.sim
  rcases s6 with ⟨u,v⟩|⟨u,e6⟩
  ·left
   rw [a6c u,a4S v]
   simp
  rcases s5 with ⟨v,_⟩|⟨v,e5⟩
  ·have:=a1z v;rw [this] at u;cases u
  rcases s4 with ⟨w,_⟩|⟨w,e4⟩
  ·have:=a62 w;rw [this] at v;cases v
  have e5':a2p (a1a C.2).2=a1h (a1a C.2).2:=by rw [e4] at e5;exact e5
  have e6':a1q (a1h (a1a C.2).2).2=rdNum (a1h (a1a C.2).2).2:=by rw [e4,e5'] at e6;exact e6
  simp only [e4,e5',e6']
  have hn:=b3m (a1h (a1a C.2).2).2
  generalize hF:rdNum (a1h (a1a C.2).2).2=F at u hn
  have h6:Sim F.2 F.2:=.inr ⟨u,rfl⟩
  by_cases f5Y:200<F.1
  ·left
   refine ⟨by simp [f5Y],?_⟩
   cases hb:(a0S F.1.toNat F.2).2.bad
   ·have hl:=(a61 F.2 F.1.toNat hb).1
    cases hm:a0v ⟨A1,B1,C.1,(a1a C.2).1,(a1h (a1a C.2).2).1,(a0S F.1.toNat F.2).1,0,0,0⟩
    ·simp
    ·have:=b73 hm
     simp only at this
     omega
   ·simp
  ·rw [show min F.1.toNat 200=F.1.toNat by omega]
   rcases c0y h6 F.1.toNat with ⟨v1,v2⟩|⟨v1,v2⟩
   ·left;simp [v1,v2]
   ·rw [v2,v1]
    simp only [f5Y,decide_false,Bool.false_or]
    cases hm:a0v ⟨A1,B1,C.1,(a1a C.2).1,(a1h (a1a C.2).2).1,(a0T F.1.toNat F.2).1,0,0,0⟩
    ·left;simp
    ·right;simp
theorem c44 (s:List UInt8):(if (b71 ⟨s,false⟩).2.bad=true then (a0C,[],(7:Int)) else ((b71 ⟨s,false⟩).1,(b71 ⟨s,false⟩).2.s,0))=a06 s:=by
 unfold a06
 rcases f3k (a:=⟨s,false⟩) (b:=⟨s,false⟩) (.inr ⟨rfl,rfl⟩) with ⟨h1,h2⟩|⟨h1,h2⟩
 ·rw [if_pos h1,if_pos h2]
 ·rw [h2]
end Go.AE
