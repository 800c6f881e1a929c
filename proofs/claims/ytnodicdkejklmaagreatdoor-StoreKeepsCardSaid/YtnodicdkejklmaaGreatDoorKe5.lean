/- The store's script, and what is heavy. -/
import Derived.Test.YtnodicdkejklmaaGreatDoorKe4
import Derived.Shelf.Strings.OnBuilder
import Derived.KernelRfl
import Derived.Test.YtnodicdkejklmaaGreatDoorProg
import Derived.Shelf.Unicode.DecodeAny
import Derived.Lib.RuneCountTail
import Derived.Shelf.Unicode.DecodeLastEight
set_option linter.unusedVariables false
set_option linter.unusedSimpArgs false
set_option maxHeartbeats 4000000
set_option maxRecDepth 100000
namespace Go.AE
open Go Go.Proofs
theorem a5w {n:Int} (h0:0<=n) (h1:n<4294967296):(((n%2^IntKind.u64.bits).toNat &&&4294967295%2^IntKind.u64.bits:Nat):Int)=n:=by
 obtain ⟨k,rfl⟩:=Int.eq_ofNat_of_zero_le h0
 have e:((k:Int)%2^IntKind.u64.bits).toNat=k:=by
  show ((k:Int)%18446744073709551616).toNat=k
  omega
 have e2:(4294967295%2^IntKind.u64.bits:Nat)=2^32-1:=rfl
 rw [e,e2,Nat.and_two_pow_sub_one_eq_mod]
 omega
theorem d0o:(2:Int)^min 32 IntKind.u64.bits=4294967296:=rfl
theorem b8p {F:CT} (hF:a07 Tryz.prog F) (a b:Int) (ha0:0<=a) (ha:a<4294967296) (hb0:0<=b) (hb:b<4294967296) (hm:a*b<4294967296) :
  PEv Tryz.prog 78 [.c (.raw (.int .u64 a)),.c (.raw (.int .u64 b))] (.t [(false,[.raw (.int .u64 0)]),(false,[.raw (.int .u64 (a*b))])]):=by
 refine a0e mixed hF Tryz.func78 d3r d3s (by kernel_rfl) (by simp) (by simp) ?_
 have hm0:0<=a*b:=Int.mul_nonneg ha0 hb0
 have e1:a.fdiv 4294967296=0:=by rw [Int.fdiv_eq_ediv_of_nonneg _ (by omega)];exact Int.ediv_eq_zero_of_lt ha0 (by omega)
 have e2:b.fdiv 4294967296=0:=by rw [Int.fdiv_eq_ediv_of_nonneg _ (by omega)];exact Int.ediv_eq_zero_of_lt hb0 (by omega)
 have e3:(a*b).fdiv 4294967296=0:=by rw [Int.fdiv_eq_ediv_of_nonneg _ (by omega)];exact Int.ediv_eq_zero_of_lt hm0 (by omega)
 have m1:=a5w ha0 (by omega)
 have m2:=a5w hb0 (by omega)
 have w1:IntKind.wrap .u64 a=a:=a4k ha0 (by omega)
 have w2:IntKind.wrap .u64 b=b:=a4k hb0 (by omega)
 have w3:IntKind.wrap .u64 (a*b)=a*b:=a4k hm0 (by omega)
 have w0:IntKind.wrap .u64 0=0:=a4k (by omega) (by omega)
 have m0:=a5w (n:=0) (by omega) (by omega)
 simp [s78,c5H,d0o,m1,m2,m0,w1,w2,w3,w0,e1,e2,e3]
theorem c36 (a b:Int) (ha0:0<=a) (ha:a<4294967296) (hb0:0<=b) (hb:b<4294967296) (hm:a*b<4294967296) :
  PEv Tryz.prog 55 [.c (.raw (.int .u64 a)),.c (.raw (.int .u64 b))] (.t [(false,[.raw (.int .u64 0)]),(false,[.raw (.int .u64 (a*b))])]):=by
 refine a0e mixed a81 Tryz.func55 d3h d3i (by kernel_rfl) (by simp) (by simp) ?_
 simp [s55]
 refine a0Q (b8p a81 a b ha0 ha hb0 hb hm) (by simp) (by simp) (by simp) ?_
 simp
section
variable {α:Type} [Enc α]
end
theorem c0Y {F:CT} (a:Int) (n:Nat) {Q:AEx->St->Prop} {st:St} (id:Id) (hn1:1<=n) (hn2:n<1000000) (k7:st.s 7=.c (.so id 0 n)) (k8:st.s 8=.c (.raw (.int .i64 1)))
  (kid:st.H id=.arr 3 1 false (a0a [a]++List.replicate (n-1) [.raw (.int .i64 0)])) (hn:∀st',st'.s 7=.c (.so id 0 n)->st'.H id=.arr 3 1 false (a0a (List.replicate n a))->Q (.exit 0) st') :
  a14 Tryz.prog F (.loop b5c) Q st:=by
 refine a1x (fun m st=>∃j:Nat,1<=j/\j<=n/\m=n-j/\st.s 7=.c (.so id 0 n)/\st.s 8=.c (.raw (.int .i64 j))/\st.H id=.arr 3 1 false (a0a (List.replicate j a)++List.replicate (n-j) [.raw (.int .i64 0)])) (n-1)
  ⟨1,by omega,by omega,rfl,k7,by simpa using k8,by simpa using kid⟩ ?_
 rintro m st ⟨j,h1,h2,rfl,k7,k8,kid⟩
 by_cases hlt:j<n
 ·have e1:IntKind.wrap .i64 ((j:Int)+((min (n-j) j:Nat):Int))=((j+min (n-j) j:Nat):Int):=by rw [a0f]<;>omega
  simp [b5c,k7,k8,kid,hlt]
  refine ⟨h2,n-(j+min (n-j) j),by omega,j+min (n-j) j,by omega,by omega,rfl,e1,?_⟩
  have t1:List.take (n-j) (a0a (List.replicate j a))=a0a (List.replicate (min (n-j) j) a):=by rw [a4g,List.take_replicate]
  have t2:List.drop (j+min (n-j) j) (a0a (List.replicate j a)++List.replicate (n-j) [AC.raw (Value.int IntKind.i64 0)])=List.replicate (n-(j+min (n-j) j)) [AC.raw (Value.int IntKind.i64 0)]:=by
   rw [List.drop_append,List.drop_eq_nil_of_le (by simp),List.nil_append,List.drop_replicate]
   congr 1;simp;omega
  rw [t1,t2,<-List.append_assoc,<-a27,List.replicate_append_replicate]
 ·have:j=n:=by omega
  subst this
  simp [b5c,k7,k8,kid,hlt]
  exact hn _ (by simp [k7]) (by simpa using kid)
theorem c0Z (a:Int) (n:Int) (h0:0<=n) (h1:n<1000000) :
  PEv Tryz.prog 26 [.c (.sl .brw false (a0a [a])),.c (.raw (.int .i64 n))] (.c (.nw 3 1 (a0a (List.replicate n.toNat a)))):=by
 refine a0e mixed a81 Tryz.func26 d2L d2M (by kernel_rfl) (by simp) (by simp) ?_
 have w1:IntKind.wrap .u64 1=1:=a4k (by omega) (by omega)
 have w2:IntKind.wrap .u64 n=n:=a4k h0 (by omega)
 have w3:IntKind.wrap .i64 n=n:=a0f (by omega) (by omega)
 have n0:¬n<0:=by omega
 simp [s26,n0,w1,w2]
 refine a0Q (c36 1 n (by omega) (by omega) h0 (by omega) (by omega)) (by simp) (by simp) (by simp) ?_
 simp [n0,w1,w2,w3,show n<=9223372036854775807 by omega,show ¬9223372036854775807<n by omega,h0]
 by_cases hz:n=0
 ·subst hz
  simp
  refine a1x (fun m st=>st.s 7=.c (.so (4,30) 0 0)/\st.s 8=.c (.raw (.int .i64 0))/\st.H (4,30)=.arr 3 1 false []) 0 (by simp) ?_
  rintro m st ⟨k7,k8,kH⟩
  simp [b5c,k7,k8,kH]
 ·obtain ⟨k,rfl⟩:∃k:Nat,n=(k:Int):=⟨n.toNat,by omega⟩
  have hk:1<=k:=by omega
  have e1:min k 1=1:=by omega
  refine ⟨by omega,c0Y a k (4,30) hk (by omega) (by simp) (by simp [e1]) ?_ ?_⟩
  ·simp [e1]
   rw [List.take_of_length_le (by simp;omega)]
  ·intro st' k7 kH
   simp [k7,kH]
open Go Go.Proofs
theorem a99 (s:List UInt8) (n:Nat) (h:s.length*n<=140737488355328) (hn:n<=1000000):PEv Tryz.prog 61 [.c (.str s),.c (.raw (.int .i64 n))] (.c (.str (Lib.repeatL s n))):=by
 refine b08 (by kernel_rfl) (by simp) fun w hI F vs hs hr=>?_
 have h0:=a06 (a0m (hr 0 _ rfl))
 have h1:=a0p (a0m (hr 1 _ rfl))
 rw [vs2 hs h0 h1]
 exact Any.strings_Repeat lays105 a8J ⟨s.toArray⟩ n w (by omega) (by simpa [ByteArray.size] using h)
theorem b31:PEv Tryz.prog 30 [] (.c (.str blank)):=by
 refine a0e mixed a81 Tryz.func30 d2O d2P (by kernel_rfl) (by simp) (by simp) ?_
 simp [s30]
 refine a0Q (a99 [0] 32 (by simp) (by omega)) (by simp) (by simp) (by simp) ?_
 simp [blank]
 decide
open Go Go.Proofs
def b0a (d:a0l) (at_:Int) (s:List UInt8):a0l×Int:=
 if a3s d=false\/s.length≠32 then (⟨[],[]⟩,1) else if at_<0\/(d.safe.length:Int)<=at_ then (⟨[],[]⟩,3) else if 400<=d.wait.length then (⟨[],[]⟩,6)
 else (⟨d.safe,d.wait++[⟨at_,s⟩]⟩,0)
def a3J (d:a0l):a0l×Int:=a4w d (List.replicate d.wait.length 1)
theorem b53 {F:CT} (n:Nat) (hn1:n<=1000) {Q:AEx->St->Prop} {st:St} (v b:Id) (hF:a0c F 19=a0c F4 19) (k0:st.s 0=.c (.raw (.int .i64 n))) (k3:st.s 3=.c (.pt v 0 0)) (k2:st.s 2=.c (.pt b 0 0))
  (k4:st.s 4=.c (.raw (.int .i64 0))) (kv:st.H v=.arr 30 2 false [[.raw (.slice none 0 0),.raw (.slice none 0 0)]]) (hf:a0v st.H st.T)
  (hq:∀st' c,st'.s 3=.c (.pt v 0 0)->st'.s 2=.c (.pt b 0 0)->st'.H v=.arr 30 2 false [[c,.raw (.slice none 0 0)]]->a7i st'.H 9 1 st.T c (List.replicate n blank)->
   a29 [v] st.H st.T st'.H st'.T->Q (.exit 0) st') :
  a14 Tryz.prog F (.loop c2p) Q st:=by
 refine a1x (fun m st'=>∃j:Nat,j<=n/\m=n-j/\st'.s 0=.c (.raw (.int .i64 n))/\st'.s 3=.c (.pt v 0 0)/\st'.s 2=.c (.pt b 0 0)/\st'.s 4=.c (.raw (.int .i64 j))/\a29 [v] st.H st.T st'.H st'.T/\
  ∃c,st'.H v=.arr 30 2 false [[c,.raw (.slice none 0 0)]]/\a7i st'.H 9 1 st.T c (List.replicate j blank)) n
  ⟨0,by simp [k0,k3,k2,k4,kv,a29.refl hf];exact a7i.nil⟩ ?_
 rintro m st' ⟨j,hj,rfl,k0,k3,k2,k4,he,c,kv,hown⟩
 have hf':=he.fresh
 have hT:=he.2.2.1
 have hfu:∀k d,st'.T<=k->st'.H (k,d)=.a0b:=hf'
 obtain ⟨f4,f5,f6⟩:=hf'.arr kv
 by_cases hlt:j<n
 ·have e2:IntKind.wrap .i64 ((j:Int)+1)=((j+1:Nat):Int):=by rw [a0f]<;>omega
  have hrep:a0a (List.replicate j blank)++[[AC.str blank]]=a0a (List.replicate (j+1) blank):=by
   rw [show [[AC.str blank]]=a0a [blank] from rfl,<-a27,List.replicate_succ']
  rcases hown with ⟨rfl,hl⟩|⟨id,rfl,hid,kid⟩
  ·obtain rfl:j=0:=by simpa using hl
   simp [c2p,k0,k3,k2,k4,kv,hlt,e2,hF,hfu,f4,f5]
   refine ⟨n-1,by omega,1,by omega,rfl,rfl,?_,a7i.so (by simp) (by simp;omega) (by simp [f4,a0a])⟩
   repeat' (first|exact he.tick (by first|omega|(simp<;>omega))|(refine a29.new ?_ (by first|omega|(simp<;>omega)) (by first|omega|(simp<;>omega)))|(refine a29.set ?_ (by simp) (by first|omega|(simp<;>omega))))
  ·obtain ⟨f7,f8,f9⟩:=hf'.arr kid
   have hne:(id=v)=False:=by
    simp only [eq_iff_iff,iff_false];intro e;rw [e,kv] at kid;cases kid
   have hne':(v=id)=False:=by
    simp only [eq_iff_iff,iff_false];intro e;rw [<-e,kv] at kid;cases kid
   simp [c2p,k0,k3,k2,k4,kv,kid,hlt,e2,hF,hfu,f4,f5,f7,f8,hne,hne']
   refine ⟨by omega,n-(j+1),by omega,j+1,by omega,rfl,rfl,?_,a7i.so (by simp) (by simp;omega) (by simp [f4,hrep])⟩
   repeat' (first|exact he.tick (by first|omega|(simp<;>omega))|(refine a29.new ?_ (by first|omega|(simp<;>omega)) (by first|omega|(simp<;>omega)))|(refine a29.set ?_ (by simp) (by first|omega|(simp<;>omega))))
 ·have:j=n:=by omega
  subst this
  simp [c2p,k0,k3,k2,k4,hlt]
  rcases hown with ⟨rfl,hl⟩|⟨id,rfl,hid,kid⟩
  ·exact hq _ _ (by simp [k3]) (by simp [k2]) (by simpa using kv) (.inl ⟨rfl,hl⟩) (he.tick (by simp))
  ·exact hq _ _ (by simp [k3]) (by simp [k2]) (by simpa using kv) (.inr ⟨id,rfl,hid,by simpa using kid⟩) (he.tick (by simp))
theorem b54 (n:Nat) (hn:n<=1000):PEv Tryz.prog 5 [.c (.raw (.int .i64 n))] (.g (a0w ⟨List.replicate n blank,[]⟩)):=by
 refine a0e mixed a81 Tryz.func5 sl5 ok5 (by kernel_rfl) (by simp [a0w]) (by simp) ?_
 simp [s5]
 refine b53 n hn (1,3) (0,2) rfl (by simp) (by simp) (by simp) (by simp) (by simp) (by (simp;repeat' (first|exact a1r.mono (Nat.zero_le _)|(refine a0v.set' ?_ (by simp))))) ?_
 intro st' c k3 k2 kv hown he
 have k2':=he.1 (0,2)
 simp at k2'
 rcases hown with ⟨rfl,hl⟩|⟨id,rfl,hid,kid⟩
 ·obtain rfl:n=0:=by simpa using hl
  simp [k3,k2,kv,k2',a0w]
 ·have hne:id≠(0,2):=by rintro rfl;simp at hid
  simp [k3,k2,kv,k2',kid,a0w,hne]
theorem a7T (n:Int) (h:0<=n/\n<=1000):PEv Tryz.prog 5 [.c (.raw (.int .i64 n))] (.g (a0w ⟨List.replicate n.toNat blank,[]⟩)):=by
 obtain ⟨k,rfl⟩:∃k:Nat,n=(k:Int):=⟨n.toNat,by omega⟩
 exact b54 k (by omega)
theorem b32 (d:a0l) (at_:Int) (s:List UInt8) (h1:d.safe.length<1000000) (h2:d.wait.length<1000000) :
  PEv Tryz.prog 25 [Arg.enc d,.c (.raw (.int .i64 at_)),.c (.str s)] (a1n (b0a d at_ s)):=by
 refine a0e mixed a81 Tryz.func25 d2J d2K (by kernel_rfl) (by simp [a1n,a0w]) (by simp) ?_
 unfold b0a
 by_cases hm:a3s d=true
 ·by_cases hs:s.length=32
  ·rw [if_neg (by simp [hm,hs])]
   by_cases g1:at_<0
   ·rw [if_pos (.inl g1)]
    simp [s25,h1,h2,hm,hs,g1,a1n,a0w]
   ·by_cases g2:(d.safe.length:Int)<=at_
    ·rw [if_pos (.inr g2)]
     simp [s25,h1,h2,hm,hs,g1,g2,a1n,a0w]
    ·rw [if_neg (by omega)]
     by_cases g3:400<=d.wait.length
     ·have g3':(400:Int)<=d.wait.length:=by omega
      rw [if_pos g3]
      simp [s25,h1,h2,hm,hs,g1,g2,g3',a1n,a0w]
     ·have g3':¬(400:Int)<=d.wait.length:=by omega
      rw [if_neg g3]
      simp [s25,h1,h2,hm,hs,g1,g2,g3',a1n,a0w]
      exact ⟨⟨by omega,by omega⟩,by rw [a27];rfl⟩
  ·rw [if_pos (.inr hs)]
   simp [s25,h1,h2,hm,hs,a1n,a0w]
 ·rw [if_pos (.inl (by simpa using hm))]
  simp [s25,h1,h2,hm,a1n,a0w]
theorem a6V (d:a0l) (h1:d.safe.length<1000000) (h2:d.wait.length<1000000):PEv Tryz.prog 9 [Arg.enc d] (a1n (a3J d)):=by
 refine a0e mixed a81 Tryz.func9 sl9 ok9 (by kernel_rfl) (by simp [a1n,a0w]) (by simp) ?_
 simp [s9]
 refine a0Q (c0Z 1 d.wait.length (by omega) (by omega)) (by simp;rfl) (by simp) (by simp) ?_
 simp
 refine a0Q (a30 d (List.replicate d.wait.length 1) h1 h2 (by simp;omega)) (by simp;rw [List.take_of_length_le (by simp)]) (by simp [a1n,a0w]) (by simp [a1n,a0w]) ?_
 simp [a1n,a0w,a3J]
open Go Go.Proofs
structure b55 where
 do_:Int
 n:Int
 s:List UInt8
 k:List Int
instance d0p:Enc b55 where
 w:=4
 row a:=[.raw (.int .i64 a.do_),.raw (.int .i64 a.n),.str a.s,.sl .old false (a0a a.k)]
 dec|[.raw (.int .i64 d),.raw (.int .i64 n),.str s,.sl .old false k]=>(a3g k).map fun k=>⟨d,n,s,k⟩|_=>none
 a3f a:=by simp
 a2S {r a} h:=by
  split at h
  ·rw [Option.map_eq_some_iff] at h
   obtain ⟨k,hk,rfl⟩:=h
   rw [a0I hk]
  ·cases h
 len _:=rfl
 old a c hc:=by
  simp at hc
  rcases hc with rfl|rfl|rfl|rfl
  ·exact .raw _
  ·exact .raw _
  ·exact .str _
  ·rw [a6b];simp
 ret a c hc:=by
  simp at hc
  rcases hc with rfl|rfl|rfl|rfl
  ·exact .raw _
  ·exact .raw _
  ·exact .str _
  ·rw [a4a];simp
@[simp] theorem c7b (a:b55):Enc.row a=[AC.raw (.int .i64 a.do_),AC.raw (.int .i64 a.n),AC.str a.s,AC.sl .old false (a0a a.k)]:=rfl
@[simp] theorem d1P:Enc.w b55=4:=rfl
def b56:List AV->Option (Prop×AV):=t3 (fun (d:a0l) _ _=>d.safe.length<1000000/\d.wait.length<1000000) fun (d:a0l) (n:Int) (s:List UInt8)=>a1n (b0a d n s)
@[simp] theorem d0q {l:List AV}:b56 l=(t3 (fun (d:a0l) _ _=>d.safe.length<1000000/\d.wait.length<1000000) fun (d:a0l) (n:Int) (s:List UInt8)=>a1n (b0a d n s)) l:=(rfl)
def c00:List AV->Option (Prop×AV):=t1 (fun d:a0l=>d.safe.length<1000000/\d.wait.length<1000000) fun d:a0l=>a1n (a3J d)
@[simp] theorem d1Q {l:List AV}:c00 l=(t1 (fun d:a0l=>d.safe.length<1000000/\d.wait.length<1000000) fun d:a0l=>a1n (a3J d)) l:=(rfl)
def c37:List AV->Option (Prop×AV):=t2 (fun (d:a0l) (k:List Int)=>d.safe.length<1000000/\d.wait.length<1000000/\k.length<281474976710656) fun (d:a0l) (k:List Int)=>a1n (a4w d k)
def c01:List AV->Option (Prop×AV):=t1 (fun n:Int=>0<=n/\n<=1000) fun n:Int=>.g (a0w ⟨List.replicate n.toNat blank,[]⟩)
@[simp] theorem d1R {l:List AV}:c01 l=(t1 (fun n:Int=>0<=n/\n<=1000) fun n:Int=>.g (a0w ⟨List.replicate n.toNat blank,[]⟩)) l:=(rfl)
def F5:CT:=(25,.pu b56)::(9,.pu c00)::(10,.pu c37)::(5,.pu c01)::F4
theorem c38:a07 Tryz.prog F5:=⟨b2Q fun d n s h=>b32 d n s h.1 h.2,
 a0o fun d h=>a6V d h.1 h.2,
 a1s fun d k h=>a30 d k h.1 h.2.1 h.2.2,
 a0o fun n h=>a7T n h,a81⟩
@[simp] theorem c7c:a0c F5 25=some (.pu b56):=(rfl)
@[simp] theorem d0r:a0c F5 9=some (.pu c00):=(rfl)
@[simp] theorem d0s:a0c F5 5=some (.pu c01):=(rfl)
@[simp] theorem d0t {n:Nat} (h:(n==25||n==9||n==10||n==5)=false):a0c F5 n=a0c F4 n:=by
 simp only [Bool.or_eq_false_iff,beq_eq_false_iff_ne,ne_eq] at h
 simp [F5,a0c,h]
@[simp] theorem b68 {α:Type} [Enc α] {l:List α} {n:Nat} (h:l.length<=n):List.take n (a0a l)=a0a l:=by rw [List.take_of_length_le (by simpa using h)]
@[simp] theorem c39 (a:List (List UInt8)):Arg.dec (.g [.sl .brw false (a0a a),.sl .brw false []])=some (a0l.mk a []):=b75 a []
open Go Go.Proofs Go.Shelf
def lays156_ren:Go.Shelf.Ren:=⟨fun|156=>56|165=>79|166=>80|169=>81|240=>95|241=>96|276=>103|277=>104|n=>n,fun|31=>27|9=>9|3=>3|4=>4|0=>0|20=>20|72=>129|76=>133|70=>127|37=>113|75=>132|127=>142|164=>153|5=>5|80=>62|n=>n,fun  |n=>n⟩
theorem lays156:Lays.n156 Tryz.prog lays156_ren where
 mixed:=by kernel_rfl
 f156:=Tryz.func56.trans (congrArg some (by kernel_rfl))
 f165:=Tryz.func79.trans (congrArg some (by kernel_rfl))
 f166:=Tryz.func80.trans (congrArg some (by kernel_rfl))
 f169:=Tryz.func81.trans (congrArg some (by kernel_rfl))
 f240:=Tryz.func95.trans (congrArg some (by kernel_rfl))
 f241:=Tryz.func96.trans (congrArg some (by kernel_rfl))
 f276:=Tryz.func103.trans (congrArg some (by kernel_rfl))
 f277:=Tryz.func104.trans (congrArg some (by kernel_rfl))
 t0:=Tryz.underlying0
 a0:=Tryz.isAgg0
 z0:=Tryz.sizeOf0
 v0:=Tryz.zeroValue0
 t3:=Tryz.underlying3
 a3:=Tryz.isAgg3
 z3:=Tryz.sizeOf3
 v3:=Tryz.zeroValue3
 t4:=Tryz.underlying4
 a4:=Tryz.isAgg4
 z4:=Tryz.sizeOf4
 v4:=Tryz.zeroValue4
 t9:=Tryz.underlying9
 a9:=Tryz.isAgg9
 z9:=Tryz.sizeOf9
 v9:=Tryz.zeroValue9
 t20:=Tryz.underlying20
 a20:=Tryz.isAgg20
 z20:=Tryz.sizeOf20
 v20:=Tryz.zeroValue20
 t31:=Tryz.underlying27
 a31:=Tryz.isAgg27
 z31:=Tryz.sizeOf27
 v31:=Tryz.zeroValue27
 t37:=Tryz.underlying113
 a37:=Tryz.isAgg113
 z37:=Tryz.sizeOf113
 v37:=Tryz.zeroValue113
 t70:=Tryz.underlying127
 a70:=Tryz.isAgg127
 z70:=Tryz.sizeOf127
 v70:=Tryz.zeroValue127
 t72:=Tryz.underlying129
 a72:=Tryz.isAgg129
 z72:=Tryz.sizeOf129
 v72:=Tryz.zeroValue129
 t75:=Tryz.underlying132
 a75:=Tryz.isAgg132
 z75:=Tryz.sizeOf132
 v75:=Tryz.zeroValue132
 t76:=Tryz.underlying133
 a76:=Tryz.isAgg133
 z76:=Tryz.sizeOf133
 v76:=Tryz.zeroValue133
 t127:=Tryz.underlying142
 a127:=Tryz.isAgg142
 z127:=Tryz.sizeOf142
 v127:=Tryz.zeroValue142
 t164:=Tryz.underlying153
 a164:=Tryz.isAgg153
 z164:=Tryz.sizeOf153
 v164:=Tryz.zeroValue153
theorem a83:Builder.Extra Tryz.prog lays156_ren where
 sizeBuilder:=by kernel_rfl
 liesBuilder:=by kernel_rfl
 t5:=Tryz.underlying5
 a5:=Tryz.isAgg5
 z5:=Tryz.sizeOf5
 v5:=Tryz.zeroValue5
 infoByte:=by kernel_rfl
 cellsByte:=by kernel_rfl
 sizeByte:=by kernel_rfl
 neB5:=by decide
open Go Go.Proofs
theorem c02 (l:List (List UInt8)) (h1:l.length<1000000) (h2:l.flatten.length<=140737488355328):PEv Tryz.prog 56 [Arg.enc l,.c (.str [])] (.c (.str l.flatten)):=by
 have hj:Lib.join l []=l.flatten:=by
  unfold Lib.join
  induction l with
  |nil=>rfl
  |cons x r ih=>
   cases r with
   |nil=>simp [List.intercalate]
   |cons y r=>
    have:=ih (by simp at h1 ⊢;omega) (by simp at h2 ⊢;omega)
    simp [List.intercalate,List.intersperse] at this ⊢
    rw [this]
 refine b08 (by kernel_rfl) (by simp) fun w hI F vs hs hr=>?_
 have h0:=a0m (hr 0 _ rfl)
 have h01:=a06 (a0m (hr 1 _ rfl))
 generalize hv:vs.getD 0 undef=v at h0
 rw [vs2 hs hv h01]
 generalize hx:a0a l=xs at h0
 cases h0 with
 |a0H _ _ _ hn=>
  cases l with
  |cons=>cases hx
  |nil=>
   rcases hn with rfl|⟨a,rfl⟩
   ·exact (Any.strings_Join_none lays156 a83 none 0 ⟨#[]⟩ w).mono fun e w' ⟨he,hw⟩=>⟨he,hw▸RowKit.Below.refl _ _⟩
   ·exact (Any.strings_Join_none lays156 a83 (some a) 0 ⟨#[]⟩ w).mono fun e w' ⟨he,hw⟩=>⟨he,hw▸RowKit.Below.refl _ _⟩
 |sl _ _ _ b o cap sz us hb hF hcap hcl hrow hcell hone hrel=>
  subst hx
  have hlen:(a0a l).length=l.length:=by simp [a0a]
  have:=Any.strings_Join lays156 a83 b o cap (l.map fun s=>(⟨s.toArray⟩:ByteArray)) ⟨#[]⟩ w (fun j x hjx=>?_) hb (by simp;omega) (by simp;rw [<-hlen];exact hcap) (by simp [Function.comp_def,hj];simpa using h2)
  ·simp [Function.comp_def,hj] at this
   rw [hlen]
   exact this
  ·simp at hjx
   obtain ⟨s,hs',rfl⟩:=hjx
   have hri:(a0a l)[j]?=some [AC.str s]:=by simp [a0a,hs']
   have hsz:1=sz:=hrow j _ hri
   subst hsz
   have hjl:j<l.length:=(List.getElem?_eq_some_iff.1 hs').1
   rw [hcell j (by rw [hlen];omega)]
   have:=a06 (hrel j 0 _ _ hri rfl)
   simp at this
   rw [this]
def b33 (s p:List UInt8):Bool:=Lib.hasPrefix s p
theorem b0b (s p:List UInt8):PEv Tryz.prog 59 [.c (.str s),.c (.str p)] (.c (.raw (.bool (b33 s p)))):=by
 refine b09 (by kernel_rfl) (by simp) fun w hI F vs hs hr=>?_
 have h0:=a06 (a0m (hr 0 _ rfl))
 have h1:=a06 (a0m (hr 1 _ rfl))
 rw [vs2 hs h0 h1]
 exact (Any.strings_HasPrefix {lays105 with} ⟨s.toArray⟩ ⟨p.toArray⟩ w).mono fun e w' ⟨he,hw⟩=>⟨he,hw▸RowKit.Below.refl _ _⟩
open Go Go.Proofs
theorem b34 (s:List UInt8) (n:Int) (h0:0<=n/\n<=1000000) (h:s.length=1):PEv Tryz.prog 61 [.c (.str s),.c (.raw (.int .i64 n))] (.c (.str (Lib.repeatL s n.toNat))):=by
 have:=a99 s n.toNat (by rw [h];omega) (by omega)
 rwa [Int.toNat_of_nonneg h0.1] at this
def b1C:List AV->Option (Prop×AV):=t1 (fun n=>0<=n/\n<9223372036854775808) fun n:Int=>.c (.str (a0g n.toNat))
@[simp] theorem c7d {l:List AV}:b1C l=(t1 (fun n=>0<=n/\n<9223372036854775808) fun n:Int=>.c (.str (a0g n.toNat))) l:=(rfl)
def b1D:List AV->Option (Prop×AV):=t1 (fun s=>s.length<4611686018427387904) fun s:List UInt8=>a2g s
@[simp] theorem c7e {l:List AV}:b1D l=(t1 (fun s=>s.length<4611686018427387904) fun s:List UInt8=>a2g s) l:=(rfl)
def b1E:List AV->Option (Prop×AV):=t1 okP fun o:OpV=>.c (.str (a0U o))
@[simp] theorem c7f {l:List AV}:b1E l=(t1 okP fun o:OpV=>.c (.str (a0U o))) l:=(rfl)
def b1F:List AV->Option (Prop×AV):=t1 (fun s=>s.length<4611686018427387904) fun s:List UInt8=>.c (.str (a02 s))
@[simp] theorem c7g {l:List AV}:b1F l=(t1 (fun s=>s.length<4611686018427387904) fun s:List UInt8=>.c (.str (a02 s))) l:=(rfl)
def b1G:List AV->Option (Prop×AV):=t1 (fun s=>s.length<4611686018427387904) fun s:List UInt8=>a2a s
@[simp] theorem c7h {l:List AV}:b1G l=(t1 (fun s=>s.length<4611686018427387904) fun s:List UInt8=>a2a s) l:=(rfl)
def b1H:List AV->Option (Prop×AV):=t2 (fun s n=>(0<=n/\n<=1000000)/\s.length=1) fun (s:List UInt8) (n:Int)=>.c (.str (Lib.repeatL s n.toNat))
@[simp] theorem c7i {l:List AV}:b1H l=(t2 (fun s n=>(0<=n/\n<=1000000)/\s.length=1) fun (s:List UInt8) (n:Int)=>.c (.str (Lib.repeatL s n.toNat))) l:=(rfl)
def b1I:List AV->Option (Prop×AV):=t2 (fun l s=>s=[]/\l.length<1000000/\l.flatten.length<=140737488355328) fun (l:List (List UInt8)) (s:List UInt8)=>.c (.str l.flatten)
@[simp] theorem c7j {l:List AV}:b1I l=(t2 (fun l s=>s=[]/\l.length<1000000/\l.flatten.length<=140737488355328) fun (l:List (List UInt8)) (s:List UInt8)=>.c (.str l.flatten)) l:=(rfl)
def b1J:List AV->Option (Prop×AV):=t2 (fun _ _=>True) fun s p:List UInt8=>.c (.raw (.bool (b33 s p)))
@[simp] theorem c7k {l:List AV}:b1J l=(t2 (fun _ _=>True) fun s p:List UInt8=>.c (.raw (.bool (b33 s p)))) l:=(rfl)
def b1K:List AV->Option (Prop×AV):=t1 (fun e=>okO e.op) fun e:a0i=>.c (.raw (.bool (a0N e)))
@[simp] theorem c7l {l:List AV}:b1K l=(t1 (fun e=>okO e.op) fun e:a0i=>.c (.raw (.bool (a0N e)))) l:=(rfl)
def b1L:MH:=mh1 145 2 (rdG okR a6h b8k)
@[simp] theorem c7m {H:Heap} {l:List AV}:b1L H l=(mh1 145 2 (rdG okR a6h b8k)) H l:=(rfl)
def FT0:CT:=(50,.pu b1C)::(82,.pu b1D)::(51,.pu b1E)::(53,.pu b1F)::(57,.pu b1G)::(61,.pu b1H)::(56,.pu b1I)::(59,.pu b1J)::(23,.pu b1K)::(98,.mu b1L)::F5
theorem b57:a07 Tryz.prog FT0:=⟨a0o fun n h=>by have:=a4H n.toNat (by omega);rwa [Int.toNat_of_nonneg h.1] at this,
 a0o fun s h=>a5t s h,
 a0o fun o h=>b8i o h,
 a0o fun s h=>a7O s h,
 a0o fun s h=>a6S s h,
 a1s fun s n h=>b34 s n h.1 h.2,
 a1s fun l s h=>by rw [h.1];exact c02 l h.2.1 h.2.2,
 a1s fun s p _=>b0b s p,
 a0o fun e h=>a96 e h,
 c0S,c38⟩
@[simp] theorem c4a:a0c FT0 50=some (.pu b1C):=(rfl)
@[simp] theorem c4b:a0c FT0 82=some (.pu b1D):=(rfl)
@[simp] theorem c4c:a0c FT0 51=some (.pu b1E):=(rfl)
@[simp] theorem c4d:a0c FT0 53=some (.pu b1F):=(rfl)
@[simp] theorem c4e:a0c FT0 57=some (.pu b1G):=(rfl)
@[simp] theorem c4f:a0c FT0 61=some (.pu b1H):=(rfl)
@[simp] theorem c4g:a0c FT0 56=some (.pu b1I):=(rfl)
@[simp] theorem c4h:a0c FT0 59=some (.pu b1J):=(rfl)
@[simp] theorem c4i:a0c FT0 23=some (.pu b1K):=(rfl)
@[simp] theorem c4j:a0c FT0 98=some (.mu b1L):=(rfl)
@[simp] theorem c7n {n:Nat} (h:(n==50||n==82||n==51||n==53||n==57||n==61||n==56||n==59||n==23||n==98)=false):a0c FT0 n=a0c F5 n:=by
 simp only [Bool.or_eq_false_iff,beq_eq_false_iff_ne,ne_eq] at h
 simp [FT0,a0c,h]
def a0O (s:List UInt8):OpV×List UInt8×Int:=if (a6h ⟨s,false⟩).2.bad then (a1E,[],7) else ((a6h ⟨s,false⟩).1,(a6h ⟨s,false⟩).2.s,0)
def a2F (s:List UInt8):AV:=.t [(true,a0d .old (a0O s).1),(false,[.str (a0O s).2.1]),(false,[.raw (.int .i64 (a0O s).2.2)])]
theorem b58 (s:List UInt8) (hs:s.length<4611686018427387904):PEv Tryz.prog 83 [.c (.str s)] (a2F s):=by
 refine a0e mixed b57 Tryz.func83 d5i d5j (by kernel_rfl) (by simp [a2F,a0d]) (by simp) ?_
 have hr:okR ⟨s,false⟩:=hs
 rcases e:a6h ⟨s,false⟩ with ⟨o,s1,b1⟩
 cases b1
 ·have e2:a0O s=(o,s1,0):=by simp [a0O,e]
  simp [s83,e,hr,a1g,b8k,a1Z,a2F,e2,a0d]
 ·have e2:a0O s=(a1E,[],7):=by simp [a0O,e]
  simp [s83,e,hr,a1g,b8k,a1Z,a2F,e2,a0d,a1E]
theorem c03 (n:Nat):Lib.repeatL [0] n=List.replicate n 0:=by
 induction n with
 |zero=>rfl
 |succ n ih=>rw [Lib.repeatL,ih];rfl
def b1M (n:Nat):Nat:=(32-n%32)%32
def b0c (s:List UInt8):List UInt8:=s++List.replicate (b1M s.length) 0
theorem b59 (s:List UInt8) (hs:s.length<4611686018427387904):PEv Tryz.prog 52 [.c (.str s)] (.c (.str (b0c s))):=by
 refine a0e mixed b57 Tryz.func52 d4F d4G (by kernel_rfl) (by simp) (by simp) ?_
 have t:∀n:Nat,((n:Int).tmod 32)=((n%32:Nat):Int):=fun n=>rfl
 have e1:=t s.length
 have e2:IntKind.wrap .i64 (32-((s.length%32:Nat):Int))=((32-s.length%32:Nat):Int):=by rw [a0f]<;>omega
 have e3:(((32-s.length%32:Nat):Int).tmod 32)=((b1M s.length:Nat):Int):=t _
 have e4:b1M s.length<32:=by unfold b1M;omega
 generalize hq:s.length%32=q at e1 e2 e3
 generalize hq2:32-q=q2 at e2 e3
 simp [s52,e1,e2,e3,c03,show b1M s.length<=1000000 by omega]
 exact ⟨by omega,by omega,rfl⟩
structure okF (e:a0i):Prop where
 join:e.join=true->okN e.a13
 op:e.join=false->okP e.op
def a0A (e:a0i):List UInt8:=if e.join then a0g 1++a0g e.a13.toNat else a0g 0++a0U e.op
def a0h (e:a0i):List UInt8×Int:=if 700<(a0A e).length then ([],2) else (b0c (a02 (a0A e)),0)
def a2G (e:a0i):AV:=.t [(false,[.str (a0h e).1]),(false,[.raw (.int .i64 (a0h e).2)])]
def b1N:List AV->Option (Prop×AV):=t1 (fun s=>s.length<4611686018427387904) fun s:List UInt8=>.c (.str (b0c s))
@[simp] theorem c7o {l:List AV}:b1N l=(t1 (fun s=>s.length<4611686018427387904) fun s:List UInt8=>.c (.str (b0c s))) l:=(rfl)
def b1O:List AV->Option (Prop×AV):=t1 (fun s=>s.length<4611686018427387904) fun s:List UInt8=>a2F s
@[simp] theorem c7p {l:List AV}:b1O l=(t1 (fun s=>s.length<4611686018427387904) fun s:List UInt8=>a2F s) l:=(rfl)
def FT1:CT:=(52,.pu b1N)::(83,.pu b1O)::FT0
theorem b6a:a07 Tryz.prog FT1:=⟨a0o fun s h=>b59 s h,
 a0o fun s h=>b58 s h,b57⟩
@[simp] theorem c4k:a0c FT1 52=some (.pu b1N):=(rfl)
@[simp] theorem c4l:a0c FT1 83=some (.pu b1O):=(rfl)
@[simp] theorem c7q {n:Nat} (h:(n==52||n==83)=false):a0c FT1 n=a0c FT0 n:=by
 simp only [Bool.or_eq_false_iff,beq_eq_false_iff_ne,ne_eq] at h
 simp [FT1,a0c,h]
theorem b35 {o:OpV} (h:okP o):(a0U o).length<=40000000:=by
 have hl1:=a2s [o.site,o.seq,o.kind]
 have hl2:=a2s [o.of_,o.num,o.gen]
 have hl3:=a5d o.after
 have hl4:=a1l o.text.length
 have hl5:=a2s [(o.gone.length:Int)]
 have hl6:=h.text
 have hl7:=h.len
 have hl8:=b2V o.gone
 simp only [List.length_cons,List.length_nil] at hl1 hl2 hl5
 unfold a0U a3I b4z
 split<;>simp only [List.length_append]<;>omega
theorem b0d {s:List UInt8} (h:s.length<4611686018427387800):(a02 s).length<4611686018427387904:=by
 have h1:=a1l s.length
 unfold a02
 split
 ·simp
 ·simp only [List.length_append]
  have l1:(a08 (ofN (a0g s.length++s))).length=4:=rfl
  omega
theorem b6b (e:a0i) (h:okF e):PEv Tryz.prog 24 [Arg.enc e] (a2G e):=by
 refine a0e mixed b6a Tryz.func24 d4e d4f (by kernel_rfl) (by simp [a2G]) (by simp [a0n,a0d]) ?_
 obtain ⟨h1,h2⟩:=h
 cases c:e.join
 ·have ho:=h2 c
  have hl:=b35 ho
  have hb:=a1l 0
  have e1:a0A e=a0g 0++a0U e.op:=by simp [a0A,c]
  have hp:(a0g 0++a0U e.op).length<=50000000:=by simp only [List.length_append];omega
  have hs:=b0d (s:=a0g 0++a0U e.op) (by omega)
  have l1:(a0g 0).length+(a0U e.op).length<=9223372036854775807:=by omega
  by_cases h7:700<(a0g 0++a0U e.op).length
  ·have e2:a0h e=([],2):=by rw [a0h,e1,if_pos h7]
   simp only [List.length_append] at h7
   have h7':(700:Int)<(a0g 0).length+(a0U e.op).length:=by omega
   simp [s24,a0n,a0d,c,ho,l1,h7',a2G,e2]
  ·have e2:a0h e=(b0c (a02 (a0g 0++a0U e.op)),0):=by rw [a0h,e1,if_neg h7]
   simp only [List.length_append] at h7
   have h7':¬(700:Int)<(a0g 0).length+(a0U e.op).length:=by omega
   have l2:(a0g 0).length+(a0U e.op).length<4611686018427387904:=by omega
   simp [s24,a0n,a0d,c,ho,l1,l2,h7',a2G,e2,hs]
 ·obtain ⟨ho,ho'⟩:=h1 c
  have hb:=a1l 1
  have hl:=a1l e.a13.toNat
  have e1:a0A e=a0g 1++a0g e.a13.toNat:=by simp [a0A,c]
  have hs:=b0d (s:=a0g 1++a0g e.a13.toNat) (by simp only [List.length_append];omega)
  have l1:(a0g 1).length+(a0g e.a13.toNat).length<=9223372036854775807:=by omega
  have h7:¬700<(a0g 1++a0g e.a13.toNat).length:=by simp only [List.length_append];omega
  have e2:a0h e=(b0c (a02 (a0g 1++a0g e.a13.toNat)),0):=by rw [a0h,e1,if_neg h7]
  have h7':¬(700:Int)<(a0g 1).length+(a0g e.a13.toNat).length:=by omega
  have l2:(a0g 1).length+(a0g e.a13.toNat).length<4611686018427387904:=by omega
  simp [s24,a0n,a0d,c,ho,ho',l1,l2,h7',a2G,e2,hs]
open Go Go.Proofs
theorem a6W (s:List UInt8):(a0S s).2.1.length<=s.length:=by
 cases hn:takeN s with
 |none=>simp [a0S,hn]
 |some q=>
  obtain ⟨n,t⟩:=q
  have:=(a2r hn).2
  simp [a0S,hn]
  omega
theorem a84 (s:List UInt8):(a0G s).1.length<=s.length/\(a0G s).2.1.length<=s.length:=by
 cases hn:takeN s with
 |none=>simp [a0G,hn]
 |some q=>
  obtain ⟨n,t⟩:=q
  have:=(a2r hn).2
  simp only [a0G,hn]
  split
  ·simp;omega
  ·simp
theorem a1N (r:RdV):(rdNum r).2.s.length<=r.s.length:=a6W r.s
theorem a7U (r:RdV):(a1b r).2.s.length<=r.s.length:=by
 have h1:=a1N r
 have h2:=a1N (rdNum r).2
 have h3:=a1N (rdNum (rdNum r).2).2
 simp only [a1b]
 omega
theorem a4J (r:RdV):∀n,(a0z n r).2.s.length<=r.s.length/\(a0z n r).1.length=n
 |0=>⟨Nat.le_refl _,rfl⟩
 |n+1=>by
  obtain ⟨h1,h2⟩:=a4J r n
  have:=a7U (a0z n r).2
  refine ⟨?_,by simp [a0z,h2]⟩
  simp only [a0z]
  omega
theorem b8q (r:RdV):(a6h r).1.text.length<=r.s.length/\(a6h r).1.gone.length<=200/\(a6h r).2.s.length<=r.s.length:=by
 have h1:=a1N r
 have h2:=a1N (rdNum r).2
 have h3:=a1N (rdNum (rdNum r).2).2
 simp only [a6h]
 split
 ·have h4:=a1N (rdNum (rdNum (rdNum r).2).2).2
  have h5:=a1N (rdNum (rdNum (rdNum (rdNum r).2).2).2).2
  have h6:=a1N (rdNum (rdNum (rdNum (rdNum (rdNum r).2).2).2).2).2
  simp only [List.length_nil]
  omega
 ·have h4:=a7U (rdNum (rdNum (rdNum r).2).2).2
  have h5:=a84 (a1b (rdNum (rdNum (rdNum r).2).2).2).2.s
  have h6:=a1N (a1a (a1b (rdNum (rdNum (rdNum r).2).2).2).2).2
  obtain ⟨h7,h8⟩:=a4J (rdNum (a1a (a1b (rdNum (rdNum (rdNum r).2).2).2).2).2).2 (min (rdNum (a1a (a1b (rdNum (rdNum (rdNum r).2).2).2).2).2).1.toNat 200)
  obtain ⟨h9,h10⟩:=h5
  simp only [a1a] at h6 h7 h8 ⊢
  refine ⟨by omega,by omega,by omega⟩
theorem a6X (s:List UInt8):(a0O s).1.text.length<=s.length/\(a0O s).1.gone.length<=200/\(a0O s).2.1.length<=s.length:=by
 obtain ⟨h1,h2,h3⟩:=b8q ⟨s,false⟩
 unfold a0O
 split
 ·simp [a1E]
 ·exact ⟨h1,h2,h3⟩
def zeroE:a0i:=⟨false,0,a1E⟩
def a2x (s:List UInt8):a0i×Bool:=
 if (a0S s).2.2≠0\/1<(a0S s).1 then (zeroE,false)
 else if (a0S s).1=1 then
  (⟨true,(a0S (a0S s).2.1).1,a1E⟩,decide ((a0S (a0S s).2.1).2.2=0)&&decide ((a0S (a0S s).2.1).2.1=[])&&a0N ⟨true,(a0S (a0S s).2.1).1,a1E⟩)
 else (⟨false,0,(a0O (a0S s).2.1).1⟩,decide ((a0O (a0S s).2.1).2.2=0)&&decide ((a0O (a0S s).2.1).2.1=[])&&a0N ⟨false,0,(a0O (a0S s).2.1).1⟩)
def a2c (s:List UInt8):AV:=.t [(true,a0n .old (a2x s).1),(false,[.raw (.bool (a2x s).2)])]
theorem b8r:okO a1E:=⟨by simp [a1E],by simp [a1E]⟩
theorem b8s (s:List UInt8) (hs:s.length<4611686018427387904):PEv Tryz.prog 58 [.c (.str s)] (a2c s):=by
 refine a0e mixed b6a Tryz.func58 d4L d4M (by kernel_rfl) (by simp [a2c,a0n,a0d]) (by simp) ?_
 have l1:=a6W s
 rcases e1:a0S s with ⟨n,r,x⟩
 rw [e1] at l1
 simp only at l1
 have l2:r.length<4611686018427387904:=by omega
 have hR:a2x s=if x≠0\/1<n then (zeroE,false)
   else if n=1 then (⟨true,(a0S r).1,a1E⟩,decide ((a0S r).2.2=0)&&decide ((a0S r).2.1=[])&&a0N ⟨true,(a0S r).1,a1E⟩)
   else (⟨false,0,(a0O r).1⟩,decide ((a0O r).2.2=0)&&decide ((a0O r).2.1=[])&&a0N ⟨false,0,(a0O r).1⟩):=by simp only [a2x,e1]
 have e1':a2g s=.t [(false,[.raw (.int .i64 n)]),(false,[.str r]),(false,[.raw (.int .i64 x)])]:=by simp [a2g,e1]
 by_cases c1:x=0
 rotate_left
 ·rw [if_pos (Or.inl c1)] at hR
  simp [s58,hs,e1',c1,a2c,hR,a0n,a0d,zeroE,a1E]
 by_cases c2:1<n
 ·rw [if_pos (Or.inr c2)] at hR
  have c2':(1:Int)<n:=by omega
  simp [s58,hs,e1',c1,c2',a2c,hR,a0n,a0d,zeroE,a1E]
 rw [if_neg (by omega)] at hR
 have c2':¬(1:Int)<n:=by omega
 by_cases c3:n=1
 ·rw [if_pos c3] at hR
  have c3':(n:Int)=1:=by omega
  rcases e2:a0S r with ⟨m,r2,x2⟩
  rw [e2] at hR
  simp only at hR
  have e2':a2g r=.t [(false,[.raw (.int .i64 m)]),(false,[.str r2]),(false,[.raw (.int .i64 x2)])]:=by simp [a2g,e2]
  have hz:okO a1E:=b8r
  have hd:(⟨true,(m:Int),⟨0,0,0,⟨0,0,0⟩,[],[],0,0,0⟩⟩:a0i)=⟨true,m,a1E⟩:=rfl
  have hd2:∀w:Tag,a0d w a1E=a0d w ⟨0,0,0,⟨0,0,0⟩,[],[],0,0,0⟩:=fun _=>rfl
  cases c4:decide (x2=0)
  ·rw [c4] at hR
   simp [s58,hs,l2,e1',e2',c1,c2',c3',c4,a2c,hR,a0n,hd2,a0d]
   simp [a1E]
  rw [c4] at hR
  cases c5:decide (r2=[])
  ·rw [c5] at hR
   simp [s58,hs,l2,e1',e2',c1,c2',c3',c4,c5,a2c,hR,a0n,hd2,a0d]
   simp [a1E]
  ·rw [c5] at hR
   simp [s58,hs,l2,e1',e2',c1,c2',c3',c4,c5,a2c,hR,a0n,hd2,a0d,hz,hd]
   simp [a1E]
 ·rw [if_neg c3] at hR
  have c3':¬(n:Int)=1:=by omega
  obtain ⟨g1,g2,g3⟩:=a6X r
  rcases e2:a0O r with ⟨o,r2,x2⟩
  rw [e2] at hR g1 g2 g3
  simp only at hR g1 g2 g3
  have ho:okO o:=⟨by omega,by omega⟩
  cases c4:decide (x2=0)
  ·rw [c4] at hR
   simp [s58,hs,l2,e1',e2,a2F,c1,c2',c3',c4,a2c,hR,a0n,a0d]
  rw [c4] at hR
  cases c5:decide (r2=[])
  ·rw [c5] at hR
   simp [s58,hs,l2,e1',e2,a2F,c1,c2',c3',c4,c5,a2c,hR,a0n,a0d]
  ·rw [c5] at hR
   simp [s58,hs,l2,e1',e2,a2F,c1,c2',c3',c4,c5,a2c,hR,a0n,a0d,ho]
theorem a4l {o:OpV} {p:Option a0s} {x:a0s} {l:List a0s} (h:a1J o p (x::l)=true):a1v x=true/\a1J o (some x) l=true:=by
 have key:∀(B:Bool) (X:Bool),(if decide (x=⟨0,0,0⟩)||!a1v x||ownB o x||B then false else X)=true->a1v x=true/\X=true:=by
  intro B X h
  cases h1:a1v x
  ·rw [h1] at h;simp at h
  ·refine ⟨rfl,?_⟩
   split at h
   ·cases h
   ·exact h
 cases p with
 |none=>exact key _ _ h
 |some q=>exact key _ _ h
theorem b6c {o:OpV} (h:a0M o=true) (h1:o.text.length<1000000) (h2:o.gone.length<1000000):okP o:=by
 simp only [a0M,Bool.and_eq_true] at h
 obtain ⟨hn,h⟩:=h
 have hn:=a4I hn
 by_cases hk:o.kind=1
 ·rw [if_pos hk] at h
  simp only [a2E,Bool.and_eq_true,decide_eq_true_eq] at h
  obtain ⟨⟨⟨⟨⟨⟨⟨⟨⟨e1,_⟩,_⟩,_⟩,_⟩,_⟩,e2⟩,e3⟩,e4⟩,e5⟩:=h
  have hg:∀(l:List a0s) (p:Option a0s),a1J o p l=true->∀e∈l,okE e:=by
   intro l
   induction l with
   |nil=>intro p _ e he;simp at he
   |cons x l ih=>
    intro p hp e he
    obtain ⟨k1,k2⟩:=a4l hp
    rcases List.mem_cons.1 he with rfl|he
    ·exact b2U k1
    ·exact ih _ k2 e he
  simp only [a3e,Bool.and_eq_true] at e2
  exact ⟨⟨by omega,by omega⟩,⟨by omega,by omega⟩,by rw [hk];exact ⟨by omega,by omega⟩,by rw [e3];exact ⟨by omega,by omega⟩,by rw [e4];exact ⟨by omega,by omega⟩,by rw [e5];exact ⟨by omega,by omega⟩,b2U e1,hg _ _ e2.1,h1,h2⟩
 ·rw [if_neg hk] at h
  simp only [a01,Bool.and_eq_true,decide_eq_true_eq,Bool.not_eq_true',decide_eq_false_iff_not] at h
  obtain ⟨hk2,⟨⟨⟨⟨⟨e1,_⟩,e2⟩,e3⟩,e4⟩,_⟩,e5⟩:=h
  have e1:=a4I e1
  exact ⟨⟨by omega,by omega⟩,⟨by omega,by omega⟩,by rw [hk2];exact ⟨by omega,by omega⟩,⟨by omega,by omega⟩,⟨by omega,by omega⟩,⟨by omega,by omega⟩,by rw [e4];exact ⟨⟨by simp,by simp⟩,⟨by simp,by simp⟩,by simp,by simp⟩,by rw [e5];intro e he;simp at he,h1,h2⟩
theorem a5x {e:a0i} (h:a0N e=true) (h1:e.op.text.length<1000000) (h2:e.op.gone.length<1000000):okF e:=by
 unfold a0N at h
 refine ⟨fun hj=>?_,fun hj=>?_⟩
 ·rw [hj] at h
  simp only [if_true,Bool.and_eq_true,decide_eq_true_eq] at h
  exact ⟨by omega,by omega⟩
 ·rw [hj] at h
  simp only [Bool.false_eq_true,if_false,Bool.and_eq_true] at h
  exact b6c h.2 h1 h2
theorem b8t {s:List UInt8} (hs:s.length<1000000) (h:(a2x s).2=true):okF (a2x s).1:=by
 have l1:=a6W s
 obtain ⟨g1,g2,g3⟩:=a6X (a0S s).2.1
 unfold a2x at h ⊢
 split at h
 ·cases h
 ·rename_i c1
  rw [if_neg c1]
  split at h
  ·rename_i c2
   rw [if_pos c2]
   simp only [Bool.and_eq_true] at h
   exact a5x h.2 (by simp [a1E]) (by simp [a1E])
  ·rename_i c2
   rw [if_neg c2]
   simp only [Bool.and_eq_true] at h
   exact a5x h.2 (by show (a0O (a0S s).2.1).1.text.length<_;omega) (by show (a0O (a0S s).2.1).1.gone.length<_;omega)
open Go
theorem a6i {s r:List UInt8} {n:Nat} (h:takeN s=some (n,r)):s=a0g n++r:=by
 have go:∀(k m acc:Nat) (s r:List UInt8) (n j:Nat),1<=m->a4s k m acc s=some (n,r)->k<=j+1->∃q,n=acc+q*m/\s=a0E j q++r/\(1<m->1<=q):=by
  intro k
  induction k with
  |zero=>intro m acc s r n j _ h;cases h
  |succ k ih=>
   intro m acc s r n j hm h hj
   cases s with
   |nil=>cases h
   |cons b s=>
    have hb:=b.toNat_lt
    rw [a4s] at h
    split at h
    ·rename_i hb8
     have hk:k≠0:=by rintro rfl;cases h
     obtain ⟨j,rfl⟩:∃i,j=i+1:=⟨j-1,by omega⟩
     obtain ⟨q,h1,h2,h3⟩:=ih _ _ _ _ _ j (by omega) h (by omega)
     have h3:=h3 (by omega)
     refine ⟨b.toNat%128+q*128,?_,?_,fun _=>by omega⟩
     ·rw [h1,Nat.add_mul,Nat.mul_assoc,Nat.mul_comm m 128];omega
     ·have e1:¬b.toNat%128+q*128<128:=by omega
      have e2:(b.toNat%128+q*128)%128+128=b.toNat:=by omega
      have e3:(b.toNat%128+q*128)/128=q:=by omega
      have e4:UInt8.ofNat b.toNat=b:=by simp
      rw [a0E,if_neg e1,e2,e3,e4,h2]
      rfl
    ·split at h
     ·cases h
     ·rename_i hb8 hc
      cases h
      have e0:b.toNat%128=b.toNat:=by omega
      refine ⟨b.toNat,by rw [e0],?_,fun h1=>by omega⟩
      have e4:UInt8.ofNat b.toNat=b:=by simp
      cases j with
      |zero=>rw [a0E,e4];rfl
      |succ j=>rw [a0E,if_pos (by omega),e4];rfl
 obtain ⟨q,h1,h2,_⟩:=go 5 1 0 s r n 9 (Nat.le_refl _) h (by omega)
 have:n=q:=by omega
 rw [this]
 exact h2
theorem a1F {r:RdV} (h:(rdNum r).2.bad=false):r.bad=false/\r.s=a0g (rdNum r).1.toNat++(rdNum r).2.s:=by
 simp only [rdNum,Bool.or_eq_false_iff] at h
 obtain ⟨h1,h2⟩:=h
 refine ⟨h1,?_⟩
 simp only [rdNum,a0S] at h2 ⊢
 cases hn:takeN r.s with
 |none=>simp [hn] at h2
 |some q=>exact a6i hn
theorem b6d {r:RdV} (h:(a1a r).2.bad=false):r.bad=false/\r.s=a0g (a1a r).1.length++(a1a r).1++(a1a r).2.s:=by
 simp only [a1a,Bool.or_eq_false_iff] at h
 obtain ⟨h1,h2⟩:=h
 refine ⟨h1,?_⟩
 simp only [a1a,a0G] at h2 ⊢
 cases hn:takeN r.s with
 |none=>simp [hn] at h2
 |some q=>
  obtain ⟨n,t⟩:=q
  simp only [hn] at h2 ⊢
  split
  ·rename_i hl
   have e:(t.take n).length=n:=by rw [List.length_take];omega
   simp only [e]
   rw [List.append_assoc,List.take_append_drop]
   exact a6i hn
  ·rename_i hl
   rw [if_neg hl] at h2
   simp at h2
theorem b0e {r:RdV} (h:(a1b r).2.bad=false):r.bad=false/\r.s=a09 (a1b r).1++(a1b r).2.s:=by
 have h3:=a1F (r:=(rdNum (rdNum r).2).2) h
 have h2:=a1F h3.1
 have h1:=a1F h2.1
 refine ⟨h1.1,?_⟩
 rw [h1.2,h2.2,h3.2]
 simp [a1b,a09,a1D]
theorem a7V (r:RdV):∀n,(a0z n r).2.bad=false->r.bad=false/\r.s=(a0z n r).1.flatMap a09++(a0z n r).2.s
 |0,h=>⟨h,rfl⟩
 |n+1,h=>by
  have h1:=b0e (r:=(a0z n r).2) h
  obtain ⟨h2,h3⟩:=a7V r n h1.1
  refine ⟨h2,?_⟩
  rw [h3,h1.2]
  simp [a0z]
theorem c04 {r:RdV} (h:(a6h r).2.bad=false):r.bad=false/\a0M (a6h r).1=true/\r.s=a0U (a6h r).1++(a6h r).2.s:=by
 by_cases hk:(rdNum (rdNum (rdNum r).2).2).1=2
 ·simp only [a6h,if_pos hk,Bool.or_eq_false_iff] at h ⊢
  obtain ⟨h,hm⟩:=h
  have h6:=a1F h
  have h5:=a1F h6.1
  have h4:=a1F h5.1
  have h3:=a1F h4.1
  have h2:=a1F h3.1
  have h1:=a1F h2.1
  refine ⟨h1.1,by simpa using hm,?_⟩
  rw [h1.2,h2.2,h3.2,h4.2,h5.2,h6.2]
  simp [a0U,hk,a3I,a1D]
 ·simp only [a6h,if_neg hk,Bool.or_eq_false_iff] at h ⊢
  obtain ⟨⟨h,hn⟩,hm⟩:=h
  have h7:=a7V _ _ h
  have h6:=a1F h7.1
  have h5:=b6d h6.1
  have h4:=b0e h5.1
  have h3:=a1F h4.1
  have h2:=a1F h3.1
  have h1:=a1F h2.1
  refine ⟨h1.1,by simpa using hm,?_⟩
  have hl:=(a4J (rdNum (a1a (a1b (rdNum (rdNum (rdNum r).2).2).2).2).2).2 (min (rdNum (a1a (a1b (rdNum (rdNum (rdNum r).2).2).2).2).2).1.toNat 200)).2
  have hnn:=b2W (a1a (a1b (rdNum (rdNum (rdNum r).2).2).2).2).2
  have hn:=of_decide_eq_false hn
  have e:(a0z (min (rdNum (a1a (a1b (rdNum (rdNum (rdNum r).2).2).2).2).2).1.toNat 200) (rdNum (a1a (a1b (rdNum (rdNum (rdNum r).2).2).2).2).2).2).1.length=(rdNum (a1a (a1b (rdNum (rdNum (rdNum r).2).2).2).2).2).1.toNat:=by rw [hl];omega
  rw [h1.2,h2.2,h3.2,h4.2,h5.2,h6.2,h7.2]
  simp [a0U,hk,a3I,b4z,a1D,e]
  rw [Int.max_eq_left hnn.1]
theorem b36 {s:List UInt8} (h:(a0O s).2.2=0):s=a0U (a0O s).1++(a0O s).2.1:=by
 unfold a0O at h ⊢
 split
 ·rename_i hb;rw [if_pos hb] at h;cases h
 ·rename_i hb
  exact (c04 (r:=⟨s,false⟩) (by simpa using hb)).2.2
theorem b2Y {s:List UInt8} (h:(a0S s).2.2=0):s=a0g (a0S s).1++(a0S s).2.1:=by
 unfold a0S at h ⊢
 cases hn:takeN s with
 |none=>simp [hn] at h
 |some q=>exact a6i hn
theorem b2Z {s:List UInt8} (h:(a2x s).2=true):a0A (a2x s).1=s:=by
 unfold a2x at h ⊢
 split
 ·rename_i c;rw [if_pos c] at h;cases h
 ·rename_i c
  rw [if_neg c] at h
  have c1:(a0S s).2.2=0:=by
   refine Classical.byContradiction fun q=>c (.inl q)
  have h1:=b2Y c1
  split
  ·rename_i c2
   rw [if_pos c2] at h
   simp only [Bool.and_eq_true,decide_eq_true_eq] at h
   have h2:=b2Y h.1.1
   rw [h.1.2] at h2
   rw [c2] at h1
   simp only [a0A,if_true,Int.toNat_natCast]
   rw [List.append_nil] at h2
   exact (congrArg (a0g 1++·) h2.symm).trans h1.symm
  ·rename_i c2
   rw [if_neg c2] at h
   simp only [Bool.and_eq_true,decide_eq_true_eq] at h
   have h2:=b36 h.1.1
   rw [h.1.2,List.append_nil] at h2
   have c3:(a0S s).1=0:=by
    have:¬1<(a0S s).1:=fun q=>c (.inr q)
    omega
   rw [c3] at h1
   simp only [a0A,Bool.false_eq_true,if_false]
   rw [<-h2]
   exact h1.symm
theorem a86 {s t r:List UInt8} (h:a3H s=some (t,r)):s=a02 t++r/\t.length<=700:=by
 unfold a3H at h
 cases hn:takeN s with
 |none=>simp [hn] at h
 |some q=>
  obtain ⟨n,q⟩:=q
  simp only [hn] at h
  split at h
  ·cases h
  ·rename_i hc
   split at h
   ·rename_i hs
    have hs1:=a6i hn
    simp only [Option.some.injEq,Prod.mk.injEq] at h
    obtain ⟨ht,hr⟩:=h
    have hl:t.length=n:=by rw [<-ht];simp;omega
    have e1:s.take (s.length-q.length)=a0g n:=by
     conv=>lhs;rw [hs1]
     simp
    rw [e1,ht] at hs
    refine ⟨?_,by omega⟩
    have e2:q=a08 (ofN (a0g n++t))++(t++r):=by
     rw [<-hs,<-hr,<-ht]
     have:q.take (4+n)=q.take 4++(q.take (4+n)).drop 4:=by
      conv=>lhs;rw [<-List.take_append_drop 4 (q.take (4+n))]
      rw [List.take_take]
      congr 2
      omega
     rw [<-List.append_assoc,<-this,List.take_append_drop]
    rw [a02,if_neg (by omega),hl]
    conv=>lhs;rw [hs1,e2]
    simp
   ·cases h
open Go Go.Proofs
def b1P:List AV->Option (Prop×AV):=t1 okF fun e:a0i=>a2G e
@[simp] theorem c7r {l:List AV}:b1P l=(t1 okF fun e:a0i=>a2G e) l:=(rfl)
def b1Q:List AV->Option (Prop×AV):=t1 (fun s=>s.length<4611686018427387904) fun s:List UInt8=>a2c s
@[simp] theorem c7s {l:List AV}:b1Q l=(t1 (fun s=>s.length<4611686018427387904) fun s:List UInt8=>a2c s) l:=(rfl)
def FT2:CT:=(24,.pu b1P)::(58,.pu b1Q)::FT1
theorem b9f:a07 Tryz.prog FT2:=⟨a0o fun e h=>b6b e h,
 a0o fun s h=>b8s s h,b6a⟩
@[simp] theorem c4m:a0c FT2 24=some (.pu b1P):=(rfl)
@[simp] theorem c4n:a0c FT2 58=some (.pu b1Q):=(rfl)
@[simp] theorem c7t {n:Nat} (h:(n==24||n==58)=false):a0c FT2 n=a0c FT1 n:=by
 simp only [Bool.or_eq_false_iff,beq_eq_false_iff_ne,ne_eq] at h
 simp [FT2,a0c,h]
def a1d (s:List UInt8):a0i×Nat×Bool:=
 match a3H s with
 |none=>(zeroE,0,false)
 |some (t,_)=>if (a2x t).2 then ((a2x t).1,(a0h (a2x t).1).1.length/32,b33 s (a0h (a2x t).1).1) else ((a2x t).1,0,false)
def a2P (r:a0i×Nat×Bool):AV:=.t [(true,a0n .old r.1),(false,[.raw (.int .i64 r.2.1)]),(false,[.raw (.bool r.2.2)])]
theorem a5U:∀{l:List (List UInt8)},(∀x∈l,x.length=32)->l.flatten.length=32*l.length
 |[],_=>rfl
 |x::l,h=>by
  have h1:=h x List.mem_cons_self
  have h2:=a5U (l:=l) fun y hy=>h y (List.mem_cons_of_mem _ hy)
  simp only [List.flatten_cons,List.length_append,List.length_cons]
  omega
theorem a4K (x:a0i):(a0h x).1.length<=800:=by
 unfold a0h
 split
 ·simp
 ·rename_i h
  have h1:=a1l (a0A x).length
  have l1:(a08 (ofN (a0g (a0A x).length++a0A x))).length=4:=rfl
  simp only [b0c,a02,if_neg h,List.length_append,List.length_replicate,l1,b1M]
  omega
theorem b6e {s:List UInt8} (h:(a1d s).2.2=true):1<=(a1d s).2.1/\32*(a1d s).2.1<=s.length/\(a1d s).2.1<=25:=by
 unfold a1d at h ⊢
 cases hq:a3H s with
 |none=>simp [hq] at h
 |some q=>
  obtain ⟨t,r⟩:=q
  obtain ⟨hsp,ht7⟩:=a86 hq
  simp only [hq] at h ⊢
  split
  ·rename_i hr
   rw [if_pos hr] at h
   have hp:=b2Z hr
   simp only at h ⊢
   have e:(a0h (a2x t).1).1=b0c (a02 t):=by rw [a0h,hp,if_neg (by omega)]
   have hl:=a4K (a2x t).1
   rw [e] at h hl ⊢
   have hpre:(b0c (a02 t)).length<=s.length:=by
    have:=List.isPrefixOf_iff_prefix.1 h
    exact this.length_le
   have h5:5<=(a02 t).length:=by
    rw [a02,if_neg (by omega)]
    have l1:(a08 (ofN (a0g t.length++t))).length=4:=rfl
    have l2:1<=(a0g t.length).length:=by
     show 1<=(a0E 9 t.length).length
     rw [a0E]
     split<;>simp
    simp only [List.length_append,l1]
    omega
   have hm:(b0c (a02 t)).length=(a02 t).length+b1M (a02 t).length:=by simp [b0c]
   unfold b1M at hm
   omega
  ·rename_i hr
   rw [if_neg hr] at h
   cases h
theorem b8u (l:List (List UInt8)) (hl:∀x∈l,x.length=32) (hn:l.length<1000000):PEv Tryz.prog 28 [Arg.enc l] (a2P (a1d (l.take 23).flatten)):=by
 refine a0e mixed b9f Tryz.func28 sl28 d4g (by kernel_rfl) (by simp [a2P,a0n,a0d]) (by simp) ?_
 obtain ⟨m,hm⟩:∃m,m=min l.length 23:=⟨_,rfl⟩
 have hmi:(if (23:Int)<l.length then (23:Int) else l.length)=(m:Int):=by split<;>omega
 have ht:l.take 23=l.take m:=by
  rw [hm]
  by_cases h:l.length<=23
  ·rw [Nat.min_eq_left h,List.take_of_length_le h,List.take_length]
  ·rw [Nat.min_eq_right (by omega)]
 have htr:List.take m (a0a l)=a0a (l.take m):=by simp [a0a]
 have hf:(l.take m).flatten.length=32*m:=by
  rw [a5U fun x hx=>hl x (List.mem_of_mem_take hx),List.length_take]
  omega
 have hml:m<=l.length:=by omega
 have d7e:m<=23:=by omega
 rw [ht]
 obtain ⟨s,hs⟩:∃s,s=(l.take m).flatten:=⟨_,rfl⟩
 rw [<-hs] at hf ⊢
 have b1:(l.take m).length<1000000:=by rw [List.length_take];omega
 have b2:(l.take m).flatten.length<=140737488355328:=by rw [<-hs];omega
 have b3:s.length<4611686018427387904:=by omega
 have b1':m<1000000:=by omega
 have b2':(List.take m (List.map List.length l)).sum<=140737488355328:=by simpa using b2
 cases hq:a3H s with
 |none=>
  have e1:a2a s=.t [(false,[.str []]),(false,[.str []]),(false,[.raw (.bool false)])]:=by simp [a2a,hq]
  have e2:a1d s=(zeroE,0,false):=by simp [a1d,hq]
  simp [s28,hmi,hml,htr,<-hs,b1',b2',b3,e1,e2,a2P,a0n,a0d,zeroE,a1E]
 |some q=>
  obtain ⟨t,r⟩:=q
  have e1:a2a s=.t [(false,[.str t]),(false,[.str r]),(false,[.raw (.bool true)])]:=by simp [a2a,hq]
  obtain ⟨hsp,ht7⟩:=a86 hq
  have b4:t.length<4611686018427387904:=by omega
  rcases e3:a2x t with ⟨x,ok⟩
  have e3':a2c t=.t [(true,a0n .old x),(false,[.raw (.bool ok)])]:=by simp [a2c,e3]
  cases ok
  ·have e2:a1d s=(x,0,false):=by simp [a1d,hq,e3]
   simp [s28,hmi,hml,htr,<-hs,b1',b2',b3,b4,e1,e2,e3',a2P,a0n,a0d]
  ·have e2:a1d s=(x,(a0h x).1.length/32,b33 s (a0h x).1):=by simp [a1d,hq,e3]
   have hx:=b8t (s:=t) (by omega) (by rw [e3])
   rw [e3] at hx
   simp only at hx
   have e4:a2G x=.t [(false,[.str (a0h x).1]),(false,[.raw (.int .i64 (a0h x).2)])]:=rfl
   generalize hb:(a0h x).1=b at e2 e4
   simp [s28,Call.operands,hmi,hml,htr,<-hs,b1',b2',b3,b4,e1,e2,e3',e4,hx,a2P,a0n,a0d]
   have hbl:=a4K x
   rw [hb] at hbl
   rw [a0f]<;>omega
open Go Go.Proofs
def secs (l:List (List UInt8)):Prop:=∀x∈l,x.length=32
def b1R:List AV->Option (Prop×AV):=t1 (fun l=>secs l/\l.length<1000000) fun l:List (List UInt8)=>a2P (a1d (l.take 23).flatten)
@[simp] theorem c7u {l:List AV}:b1R l=(t1 (fun l=>secs l/\l.length<1000000) fun l:List (List UInt8)=>a2P (a1d (l.take 23).flatten)) l:=(rfl)
def FT3:CT:=(28,.pu b1R)::FT2
theorem b9g:a07 Tryz.prog FT3:=⟨a0o fun l h=>b8u l h.1 h.2,b9f⟩
@[simp] theorem c4o:a0c FT3 28=some (.pu b1R):=(rfl)
@[simp] theorem c7v {n:Nat} (h:(n==28)=false):a0c FT3 n=a0c FT2 n:=by
 simp only [Bool.or_eq_false_iff,beq_eq_false_iff_ne,ne_eq] at h
 simp [FT3,a0c,h]
def a4t:Nat->List (List UInt8)->Nat->List a0i×Nat
 |0,_,a=>([],a)
 |k+1,l,a=>if l=[] then ([],a) else
  if (a1d (l.take 23).flatten).2.2 then
   ((a1d (l.take 23).flatten).1::(a4t k (l.drop (a1d (l.take 23).flatten).2.1) (a+(a1d (l.take 23).flatten).2.1)).1,(a4t k (l.drop (a1d (l.take 23).flatten).2.1) (a+(a1d (l.take 23).flatten).2.1)).2)
  else ([],a)
def a4L (d:a0l):List a0i×Nat×Int:=if a3s d=true then ((a4t d.safe.length d.safe 0).1,(a4t d.safe.length d.safe 0).2,0) else ([],0,1)
def a6Y (r:List a0i×Nat×Int):AV:=.t [(false,[.nw 48 13 (a0a r.1)]),(false,[.raw (.int .i64 r.2.1)]),(false,[.raw (.int .i64 r.2.2)])]
theorem a6Z {d:a0l} (h:a3s d=true):secs d.safe/\1<=d.safe.length/\d.safe.length<=400:=by
 simp only [a3s,Bool.and_eq_true,decide_eq_true_eq,List.all_eq_true] at h
 obtain ⟨⟨⟨⟨h1,h2⟩,_⟩,h3⟩,_⟩:=h
 exact ⟨fun x hx=>by simpa [a55] using h3 x hx,h1,h2⟩
theorem b6f (d:a0l) (h1:d.safe.length<1000000) (h2:d.wait.length<1000000):PEv Tryz.prog 11 [Arg.enc d] (a6Y (a4L d)):=by
 refine a0e mixed b9g Tryz.func11 sl11 d3O (by kernel_rfl) (by simp [a6Y]) (by simp) ?_
 cases hm:a3s d
 ·have e:a4L d=([],0,1):=by simp [a4L,hm]
  simp [s11,h1,h2,hm,e,a6Y]
 obtain ⟨b4A,hl1,hl4⟩:=a6Z hm
 have e:a4L d=((a4t d.safe.length d.safe 0).1,(a4t d.safe.length d.safe 0).2,0):=by simp [a4L,hm]
 obtain ⟨R,hR⟩:∃R,R=a4t d.safe.length d.safe 0:=⟨_,rfl⟩
 rw [<-hR] at e
 simp [s11,h1,h2,hm,e,a6Y]
 refine a1x (fun q st=>∃(a k:Nat) (acc:List a0i),a<=d.safe.length/\q=d.safe.length-a/\d.safe.length-a<=k/\st.s 1=.c (.pt (0,1) 0 0)/\st.s 3=.c (.raw (.int .i64 a))/\acc.length<=a/\
  acc++(a4t k (d.safe.drop a) a).1=R.1/\(a4t k (d.safe.drop a) a).2=R.2/\st.H (0,1)=.arr 30 2 false [[.sl .brw false (a0a d.safe),.sl .brw false (a0a d.wait)]]/\
  ((st.s 2=.c (.raw (.slice none 0 0))/\acc=[])\/∃id,st.s 2=.c (.so id 0 acc.length)/\st.H id=.arr 48 13 false (a0a acc))/\0<st.T/\a0v st.H st.T) d.safe.length ?_ ?_
 ·refine ⟨0,d.safe.length,[],by omega,by omega,by omega,?_⟩
  simp [hR]
  (repeat' (first|exact a1r.mono (Nat.zero_le _)|(refine a0v.set' ?_ (by simp))))
 rintro q st ⟨a,k,acc,ha,rfl,hk,q1,q3,hac,hr1,hr2,hD,hown,hT,hf⟩
 have hfu:∀k d,st.T<=k->st.H (k,d)=.a0b:=hf
 have d2q:∀d,st.H (st.T+1+1+1,d)=.a0b:=fun d=>hf _ _ (by omega)
 by_cases hlt:a<d.safe.length
 ·have hlt':(a:Int)<d.safe.length:=by omega
  have hle:a<=d.safe.length:=by omega
  have htr:List.drop a (a0a d.safe)=a0a (d.safe.drop a):=by simp [a0a]
  have hs2:secs (d.safe.drop a):=fun x hx=>b4A x (List.mem_of_mem_drop hx)
  have hs3:d.safe.length-a<1000000:=by omega
  obtain ⟨k,rfl⟩:∃j,k=j+1:=⟨k-1,by omega⟩
  have hne:d.safe.drop a≠[]:=by intro h;have:=congrArg List.length h;simp at this;omega
  rw [a4t,if_neg hne] at hr1 hr2
  obtain ⟨S,hS⟩:∃S,S=((d.safe.drop a).take 23).flatten:=⟨_,rfl⟩
  have hSl:S.length<=32*(d.safe.length-a):=by
   rw [hS,a5U fun x hx=>hs2 x (List.mem_of_mem_take hx),List.length_take,List.length_drop]
   omega
  rw [<-hS] at hr1 hr2
  have hok:=@b6e S
  rcases hfr:a1d S with ⟨x,n,ok⟩
  rw [hfr] at hr1 hr2 hok
  simp only at hr1 hr2 hok
  cases ok
  ·simp only [Bool.false_eq_true,if_false] at hr1 hr2
   rcases hown with ⟨q2,rfl⟩|⟨id,q2,hid⟩
   ·simp [b1d,q1,q2,q3,hD,hlt',hle,htr,hs2,hs3,<-hS,hfr,a2P,a0n,a0d,hfu]
    exact ⟨by simpa using hr1.symm,hr2⟩
   ·obtain ⟨p1,p2,p3⟩:=hf.arr hid
    simp [b1d,q1,q2,q3,hD,hlt',hle,htr,hs2,hs3,<-hS,hfr,a2P,a0n,a0d,hfu,hid,p1,p2]
    simp only [List.append_nil] at hr1
    exact ⟨⟨hr1,by rw [hr1]⟩,hr2⟩
  ·simp only [if_true] at hr1 hr2
   obtain ⟨n1,n2,n3⟩:=hok rfl
   have hdd:(d.safe.drop a).drop n=d.safe.drop (a+n):=by rw [List.drop_drop]
   rw [hdd] at hr1 hr2
   have hr2':=hr2
   have hw:IntKind.wrap .i64 ((a:Int)+n)=((a+n:Nat):Int):=by rw [a0f]<;>omega
   rcases hown with ⟨q2,rfl⟩|⟨id,q2,hid⟩
   ·simp [b1d,q1,q2,q3,hD,hlt',hle,htr,hs2,hs3,<-hS,hfr,a2P,a0n,a0d,hfu,d2q,hw]
    refine ⟨d.safe.length-(a+n),by omega,a+n,by omega,rfl,k,by omega,by simp,[x],by simp;omega,?_,hr2',⟨_,_,⟨⟨rfl,rfl⟩,rfl⟩,?_⟩,?_⟩
    ·simpa [hdd] using hr1
    ·simp [a0a,a0n,a0d]
    ·repeat' (first|exact hf.mono (by first|omega|(simp<;>omega))|(refine a0v.set' ?_ (by first|omega|(simp<;>omega))))
   ·obtain ⟨p1,p2,p3⟩:=hf.arr hid
    have p4:∀d,((st.T+1+1+1,d)=id)=False:=fun d=>p1 _ d (by omega)
    have p5:∀d,(id=(st.T+1+1+1,d))=False:=fun d=>p2 _ d (by omega)
    have p6:∀d,((st.T+1,d)=id)=False:=fun d=>p1 _ d (by omega)
    have p7:∀d,(id=(st.T+1,d))=False:=fun d=>p2 _ d (by omega)
    simp [b1d,q1,q2,q3,hD,hlt',hle,htr,hs2,hs3,<-hS,hfr,a2P,a0n,a0d,hfu,d2q,hid,p1,p2,p4,p5,p6,p7,hw]
    refine ⟨⟨by omega,by omega⟩,d.safe.length-(a+n),by omega,a+n,by omega,rfl,k,by omega,by simp,acc++[x],by simp;omega,by simpa using hr1,hr2',?_,⟨_,_,⟨⟨rfl,rfl⟩,by simp⟩,?_⟩,?_⟩
    ·intro h
     rw [<-h,hD] at hid
     simp at hid
    ·simp [a0a,a0n,a0d]
    ·repeat' (first|exact hf.mono (by first|omega|(simp<;>omega))|(refine a0v.set' ?_ (by first|omega|(simp<;>omega))))
 ·have:a=d.safe.length:=by omega
  subst this
  have hd:d.safe.drop d.safe.length=[]:=List.drop_length
  have hr3:(a4t k (d.safe.drop d.safe.length) d.safe.length)=([],d.safe.length):=by
   rw [hd]
   cases k with
   |zero=>rfl
   |succ k=>rw [a4t,if_pos rfl]
  rw [hr3] at hr1 hr2
  simp only [List.append_nil] at hr1 hr2
  rcases hown with ⟨q2,rfl⟩|⟨id,q2,hid⟩
  ·simp [b1d,q1,q2,q3,hD,<-hr1,<-hr2]
  ·simp [b1d,q1,q2,q3,hD,<-hr1,<-hr2,hid]
open Go Go.Proofs
def noD:a0l:=⟨[],[]⟩
def a88 (s:List UInt8) (i:Nat):List UInt8:=(s.drop (32*i)).take 32
def b20 (s:List UInt8) (at_:Int):Nat->Nat->a0l->a0l×Int
 |0,_,d=>(d,0)
 |k+1,i,d=>if (b0a d (at_+i) (a88 s i)).2=0 then b20 s at_ k (i+1) (b0a d (at_+i) (a88 s i)).1 else (noD,(b0a d (at_+i) (a88 s i)).2)
def a0J (d:a0l) (at_:Int) (e:a0i):a0l×Int×Int:=
 if a3s d=true/\a0N e=true/\0<=at_ then
  if (a0h e).2=0 then
   if (((a0h e).1.length/32:Nat):Int)>(d.safe.length:Int)-min at_ (d.safe.length:Int) then (noD,0,6)
   else if (b20 (a0h e).1 at_ ((a0h e).1.length/32) 0 d).2=0 then ((b20 (a0h e).1 at_ ((a0h e).1.length/32) 0 d).1,at_+((a0h e).1.length/32:Nat),0)
   else (noD,0,(b20 (a0h e).1 at_ ((a0h e).1.length/32) 0 d).2)
  else (noD,0,(a0h e).2)
 else (noD,0,1)
def a2d (r:a0l×Int×Int):AV:=.t [(true,a0w r.1),(false,[.raw (.int .i64 r.2.1)]),(false,[.raw (.int .i64 r.2.2)])]
theorem a7W {e:a0i} (h:(a0h e).2=0):1<=(a0h e).1.length/32/\32*((a0h e).1.length/32)=(a0h e).1.length/\(a0h e).1.length/32<=25:=by
 have hl:=a4K e
 unfold a0h at h hl ⊢
 split at h
 ·cases h
 ·rename_i h7
  rw [if_neg h7] at hl ⊢
  have h5:5<=(a02 (a0A e)).length:=by
   rw [a02,if_neg (by omega)]
   have l1:(a08 (ofN (a0g (a0A e).length++a0A e))).length=4:=rfl
   have l2:1<=(a0g (a0A e).length).length:=by
    show 1<=(a0E 9 (a0A e).length).length
    rw [a0E]
    split<;>simp
   simp only [List.length_append,l1]
   omega
  have hm:(b0c (a02 (a0A e))).length=(a02 (a0A e)).length+b1M (a02 (a0A e)).length:=by simp [b0c]
  unfold b1M at hm
  simp only at hl ⊢
  omega
theorem b0f {d:a0l} (h:a3s d=true):d.wait.length<=400:=by
 simp only [a3s,Bool.and_eq_true,decide_eq_true_eq] at h
 exact h.1.1.2
theorem b21 (d:a0l) (n:Int) (s:List UInt8):(b0a d n s).1.safe.length<=d.safe.length/\(b0a d n s).1.wait.length<=d.wait.length+1:=by
 unfold b0a
 repeat' split
 all_goals simp
def b1S:List AV->Option (Prop×AV):=t1 (fun d:a0l=>d.safe.length<1000000/\d.wait.length<1000000) fun d:a0l=>a6Y (a4L d)
@[simp] theorem c7w {l:List AV}:b1S l=(t1 (fun d:a0l=>d.safe.length<1000000/\d.wait.length<1000000) fun d:a0l=>a6Y (a4L d)) l:=(rfl)
def FT4:CT:=(11,.pu b1S)::FT3
theorem b9h:a07 Tryz.prog FT4:=⟨a0o fun d h=>b6f d h.1 h.2,b9g⟩
@[simp] theorem c4p:a0c FT4 11=some (.pu b1S):=(rfl)
@[simp] theorem c7x {n:Nat} (h:(n==11)=false):a0c FT4 n=a0c FT3 n:=by
 simp only [Bool.or_eq_false_iff,beq_eq_false_iff_ne,ne_eq] at h
 simp [FT4,a0c,h]
theorem b0g (d:a0l) (at_:Int) (e:a0i) (h1:d.safe.length<1000000) (h2:d.wait.length<1000000) (h3:e.op.text.length<1000000) (h4:e.op.gone.length<1000000) (hat:at_<9223372036854775808) :
  PEv Tryz.prog 7 [Arg.enc d,.c (.raw (.int .i64 at_)),Arg.enc e] (a2d (a0J d at_ e)):=by
 refine a0e mixed b9h Tryz.func7 sl7 ok7 (by kernel_rfl) (by simp [a2d,a0w]) (by simp [a0n,a0d]) ?_
 have ho:okO e.op:=⟨by omega,by omega⟩
 cases hm:a3s d
 ·have er:a0J d at_ e=(noD,0,1):=by simp [a0J,hm]
  simp [s7,a0n,a0d,h1,h2,hm,er,a2d,noD,a0w]
 cases he:a0N e
 ·have er:a0J d at_ e=(noD,0,1):=by simp [a0J,he]
  simp [s7,a0n,a0d,h1,h2,hm,ho,he,er,a2d,noD,a0w]
 by_cases ha:at_<0
 ·have er:a0J d at_ e=(noD,0,1):=by rw [a0J,if_neg (by omega)]
  simp [s7,a0n,a0d,h1,h2,hm,ho,he,ha,er,a2d,noD,a0w]
 have hof:=a5x he h3 h4
 have er1:a0J d at_ e=if (a0h e).2=0 then
   if (((a0h e).1.length/32:Nat):Int)>(d.safe.length:Int)-min at_ (d.safe.length:Int) then (noD,0,6)
   else if (b20 (a0h e).1 at_ ((a0h e).1.length/32) 0 d).2=0 then ((b20 (a0h e).1 at_ ((a0h e).1.length/32) 0 d).1,at_+((a0h e).1.length/32:Nat),0)
   else (noD,0,(b20 (a0h e).1 at_ ((a0h e).1.length/32) 0 d).2)
  else (noD,0,(a0h e).2):=by rw [a0J,if_pos ⟨hm,he,by omega⟩]
 have hfk:=@a7W e
 have e4:a2G e=.t [(false,[.str (a0h e).1]),(false,[.raw (.int .i64 (a0h e).2)])]:=rfl
 rcases hf:a0h e with ⟨b,c⟩
 rw [hf] at er1 hfk e4
 simp only at er1 hfk e4
 by_cases hc:c=0
 rotate_left
 ·rw [if_neg hc] at er1
  simp [s7,a0n,a0d,h1,h2,hm,ho,he,ha,hof,e4,hc,er1,a2d,noD,a0w]
 subst hc
 obtain ⟨k1,k2,k3⟩:=hfk rfl
 rw [if_pos rfl] at er1
 have e5:(b.length:Int).tdiv 32=((b.length/32:Nat):Int):=rfl
 obtain ⟨n,hn⟩:∃n,n=b.length/32:=⟨_,rfl⟩
 rw [<-hn] at er1 k1 k2 k3 e5
 have e6:IntKind.wrap .i64 (n:Int)=n:=by rw [a0f]<;>omega
 have e7:(if (d.safe.length:Int)<at_ then (d.safe.length:Int) else at_)=min at_ (d.safe.length:Int):=by omega
 have e8:IntKind.wrap .i64 ((d.safe.length:Int)-min at_ (d.safe.length:Int))=(d.safe.length:Int)-min at_ (d.safe.length:Int):=by rw [a0f]<;>omega
 obtain ⟨z,hz⟩:∃z,z=(d.safe.length:Int)-min at_ (d.safe.length:Int):=⟨_,rfl⟩
 rw [<-hz] at er1 e8
 by_cases hn2:z<n
 ·rw [if_pos (by omega)] at er1
  simp [s7,a0n,a0d,h1,h2,hm,ho,he,ha,hof,e4,e5,e6,e7,e8,<-hz,hn2,er1,a2d,noD,a0w]
 rw [if_neg (by omega)] at er1
 have d7f:at_+n<=d.safe.length:=by omega
 simp [s7,a0n,a0d,h1,h2,hm,ho,he,ha,hof,e4,e5,e6,e7,e8,<-hz,hn2,a2d,noD,a0w]
 obtain ⟨R,hR⟩:∃R,R=b20 b at_ n 0 d:=⟨_,rfl⟩
 rw [<-hR] at er1
 have d02:=b0f hm
 refine a1x (fun q st=>∃(i:Nat) (D:a0l),i<=n/\q=n-i/\st.s 1=.c (.raw (.int .i64 at_))/\st.s 3=.c (.pt (0,3) 0 0)/\st.s 6=.c (.pt (0,6) 0 0)/\st.s 9=.c (.str b)/\st.s 10=.c (.raw (.int .i64 n))/\st.s 49=.c (.raw (.int .i64 n))/\st.s 50=.c (.raw (.int .i64 i))/\
  st.H (0,6)=.arr 30 2 false [[.raw (.slice none 0 0),.raw (.slice none 0 0)]]/\b20 b at_ (n-i) i D=R/\D.safe.length<=d.safe.length/\D.wait.length<=d.wait.length+i/\
  ((i=0/\st.H (0,3)=.arr 30 2 false [[.sl .brw false (a0a D.safe),.sl .brw false (a0a D.wait)]])\/
   ∃j1 j2,j1≠j2/\st.H (0,3)=.arr 30 2 false [[.so j1 0 D.safe.length,.so j2 0 D.wait.length]]/\st.H j1=.arr 9 1 false (a0a D.safe)/\st.H j2=.arr 73 2 false (a0a D.wait))/\0<st.T/\a0v st.H st.T) n ?_ ?_
 ·refine ⟨0,d,by omega,by omega,?_⟩
  simp [hR]
  (repeat' (first|exact a1r.mono (Nat.zero_le _)|(refine a0v.set' ?_ (by simp))))
 rintro q st ⟨i,D,hi,rfl,q1,q3,q6,q9,q10,q49,q50,hH6,hap,hs,hwt,hD,hT,hfr⟩
 have hfu:∀k d,st.T<=k->st.H (k,d)=.a0b:=hfr
 by_cases hlt:i<n
 ·have hlt':(i:Int)<n:=by omega
  have w1:IntKind.wrap .i64 (at_+i)=at_+i:=by rw [a0f]<;>omega
  have w2:IntKind.wrap .i64 ((i:Int)*32)=((32*i:Nat):Int):=by rw [a0f]<;>omega
  have w3:IntKind.wrap .i64 ((i:Int)+1)=((i+1:Nat):Int):=by rw [a0f]<;>omega
  have w4:IntKind.wrap .i64 (((i:Int)+1)*32)=((32*i+32:Nat):Int):=by rw [a0f]<;>omega
  obtain ⟨lo,hlo⟩:∃x,x=32*i:=⟨_,rfl⟩
  obtain ⟨hi2,hhi⟩:∃x,x=32*i+32:=⟨_,rfl⟩
  rw [<-hlo] at w2
  rw [<-hhi] at w4
  have w5:lo<=hi2:=by omega
  have w6:hi2<=b.length:=by omega
  have b1:D.safe.length<1000000:=by omega
  have b2:D.wait.length<1000000:=by omega
  obtain ⟨l1,l2⟩:=b21 D (at_+i) (a88 b i)
  rw [show n-i=(n-(i+1))+1 by omega,b20] at hap
  have b4A:(b.take hi2).drop lo=a88 b i:=by
   rw [a88,List.drop_take,<-hlo,hhi,hlo]
   congr 1
   omega
  obtain ⟨Ds,Dw⟩:=D
  rcases hp:b0a ⟨Ds,Dw⟩ (at_+i) (a88 b i) with ⟨D2,c⟩
  have b62:∀d,st.H (st.T+1+1,d)=.a0b:=fun d=>hfr _ _ (by omega)
  simp only at b1 b2 hs hwt hD
  rw [hp] at hap l1 l2
  simp only at hap l1 l2
  by_cases hc:c=0
  ·rw [if_pos hc] at hap
   subst hc
   rcases hD with ⟨h0,hH3⟩|⟨j1,j2,hjj,hH3,hj1,hj2⟩
   ·simp [c1R,q1,q3,q6,q9,q10,q49,q50,hH6,hH3,hlt',w1,w2,w3,w4,w5,w6,b1,b2,b4A,hp,a1n,a0w,hfu,b62]
    refine ⟨n-(i+1),by omega,i+1,by omega,rfl,rfl,D2,hap,by omega,by omega,⟨_,_,_,_,?_,⟨⟨⟨rfl,rfl⟩,rfl⟩,⟨rfl,rfl⟩,rfl⟩,?_,?_⟩,?_⟩
    ·simp
    ·simp
    ·simp
    ·have hf:=hfr
     repeat' (first|exact hf.mono (by first|omega|(simp<;>omega))|(refine a0v.set' ?_ (by first|omega|(simp<;>omega))))
   ·simp [c1R,q1,q3,q6,q9,q10,q49,q50,hH6,hH3,hj1,hj2,hlt',w1,w2,w3,w4,w5,w6,b1,b2,b4A,hp,a1n,a0w,hfu,b62]
    refine ⟨n-(i+1),by omega,i+1,by omega,rfl,rfl,D2,hap,by omega,by omega,⟨_,_,_,_,?_,⟨⟨⟨rfl,rfl⟩,rfl⟩,⟨rfl,rfl⟩,rfl⟩,?_,?_⟩,?_⟩
    ·simp
    ·simp
    ·simp
    ·have hf:=hfr
     repeat' (first|exact hf.mono (by first|omega|(simp<;>omega))|(refine a0v.set' ?_ (by first|omega|(simp<;>omega))))
  ·rw [if_neg hc] at hap
   have er2:a0J d at_ e=(noD,0,c):=by rw [er1,<-hap,if_neg hc]
   rcases hD with ⟨h0,hH3⟩|⟨j1,j2,hjj,hH3,hj1,hj2⟩
   ·simp [c1R,q1,q3,q6,q9,q10,q49,q50,hH6,hH3,hlt',w1,w2,w3,w4,w5,w6,b1,b2,b4A,hp,a1n,a0w,hfu,b62,hc,er2,noD]
   ·simp [c1R,q1,q3,q6,q9,q10,q49,q50,hH6,hH3,hj1,hj2,hlt',w1,w2,w3,w4,w5,w6,b1,b2,b4A,hp,a1n,a0w,hfu,b62,hc,er2,noD]
 ·have:i=n:=by omega
  subst this
  rw [Nat.sub_self,b20] at hap
  have w1:IntKind.wrap .i64 (at_+i)=at_+i:=by rw [a0f]<;>omega
  have er2:a0J d at_ e=(D,at_+i,0):=by rw [er1,<-hap,if_pos rfl]
  rcases hD with ⟨h0,hH3⟩|⟨j1,j2,hjj,hH3,hj1,hj2⟩
  ·omega
  ·simp [c1R,q1,q3,q6,q9,q10,q49,q50,hH6,hH3,hj1,hj2,w1,er2]
   refine ⟨⟨?_,?_⟩,hjj⟩
   ·rintro rfl
    rw [hH6] at hj1
    simp at hj1
   ·rintro rfl
    rw [hH6] at hj2
    simp at hj2
open Go Go.Proofs
def b1T:List AV->Option (Prop×AV):=t0 (.c (.str blank))
@[simp] theorem c7y {l:List AV}:b1T l=(t0 (.c (.str blank))) l:=(rfl)
def FT5:CT:=(30,.pu b1T)::FT4
theorem b9i:a07 Tryz.prog FT5:=⟨b2R b31,b9h⟩
@[simp] theorem c4q:a0c FT5 30=some (.pu b1T):=(rfl)
@[simp] theorem c7z {n:Nat} (h:(n==30)=false):a0c FT5 n=a0c FT4 n:=by
 simp only [Bool.or_eq_false_iff,beq_eq_false_iff_ne,ne_eq] at h
 simp [FT5,a0c,h]
def a3E (at_:Int):List (List UInt8)->Nat->a0l->a0l×Int
 |[],_,d=>(d,0)
 |s::l,i,d=>if (i:Int)<at_\/s=blank then a3E at_ l (i+1) d
  else if (b0a d i blank).2=0 then a3E at_ l (i+1) (b0a d i blank).1 else (noD,(b0a d i blank).2)
def a2Q (d:a0l) (at_:Int):a0l×Int:=
 if a3s d=true/\0<=at_ then (if (a3E at_ d.safe 0 d).2=0 then a3J (a3E at_ d.safe 0 d).1 else (noD,(a3E at_ d.safe 0 d).2)) else (noD,1)
theorem b22 (d:a0l) (at_:Int) (h1:d.safe.length<1000000) (h2:d.wait.length<1000000) :
  PEv Tryz.prog 13 [Arg.enc d,.c (.raw (.int .i64 at_))] (a1n (a2Q d at_)):=by
 refine a0e mixed b9i Tryz.func13 sl13 d3Q (by kernel_rfl) (by simp [a1n,a0w]) (by simp) ?_
 cases hm:a3s d
 ·have er:a2Q d at_=(noD,1):=by simp [a2Q,hm]
  simp [s13,h1,h2,hm,er,a1n,noD,a0w]
 by_cases ha:at_<0
 ·have er:a2Q d at_=(noD,1):=by rw [a2Q,if_neg (by omega)]
  simp [s13,h1,h2,hm,ha,er,a1n,noD,a0w]
 obtain ⟨R,hR⟩:∃R,R=a3E at_ d.safe 0 d:=⟨_,rfl⟩
 have er1:a2Q d at_=if R.2=0 then a3J R.1 else (noD,R.2):=by rw [a2Q,if_pos ⟨hm,by omega⟩,hR]
 have d02:=b0f hm
 obtain ⟨_,_,d6m⟩:=a6Z hm
 simp [s13,h1,h2,hm,ha,a1n,a0w]
 refine a1x (fun q st=>∃(i:Nat) (D:a0l),i<=d.safe.length/\q=d.safe.length-i/\st.s 1=.c (.raw (.int .i64 at_))/\st.s 2=.c (.pt (0,2) 0 0)/\st.s 4=.c (.pt (0,4) 0 0)/\st.s 18=.c (.sl .brw false (a0a d.safe))/\st.s 19=.c (.raw (.int .i64 d.safe.length))/\st.s 20=.c (.raw (.int .i64 i))/\
  st.H (0,4)=.arr 30 2 false [[.raw (.slice none 0 0),.raw (.slice none 0 0)]]/\a3E at_ (d.safe.drop i) i D=R/\D.safe.length<=d.safe.length/\D.wait.length<=d.wait.length+i/\
  (st.H (0,2)=.arr 30 2 false [[.sl .brw false (a0a D.safe),.sl .brw false (a0a D.wait)]]\/
   ∃j1 j2,j1≠j2/\st.H (0,2)=.arr 30 2 false [[.so j1 0 D.safe.length,.so j2 0 D.wait.length]]/\st.H j1=.arr 9 1 false (a0a D.safe)/\st.H j2=.arr 73 2 false (a0a D.wait))/\0<st.T/\a0v st.H st.T) d.safe.length ?_ ?_
 ·refine ⟨0,d,by omega,by omega,?_⟩
  simp [hR]
  (repeat' (first|exact a1r.mono (Nat.zero_le _)|(refine a0v.set' ?_ (by simp))))
 rintro q st ⟨i,D,hi,rfl,q1,q2,q4,q18,q19,q20,hH4,hap,hs,hwt,hD,hT,hfr⟩
 have hfu:∀k d,st.T<=k->st.H (k,d)=.a0b:=hfr
 have b62:∀d,st.H (st.T+1+1+1+1,d)=.a0b:=fun d=>hfr _ _ (by omega)
 obtain ⟨Ds,Dw⟩:=D
 simp only at hs hwt hD
 have b1:Ds.length<1000000:=by omega
 have b2:Dw.length<1000000:=by omega
 by_cases hlt:i<d.safe.length
 ·have hlt':(i:Int)<d.safe.length:=by omega
  have w3:IntKind.wrap .i64 ((i:Int)+1)=((i+1:Nat):Int):=by rw [a0f]<;>omega
  rw [List.drop_eq_getElem_cons hlt,a3E] at hap
  by_cases c1:(i:Int)<at_
  ·rw [if_pos (Or.inl c1)] at hap
   simp [a8H,q1,q2,q4,q18,q19,q20,hH4,hlt,hlt',c1,w3]
   exact ⟨d.safe.length-(i+1),by omega,i+1,by omega,rfl,by simp,⟨Ds,Dw⟩,hap,hs,by simp only;omega,by simpa using hD,by first|exact hfr|exact hfr.mono (by omega)⟩
  cases c2:decide (d.safe[i]=blank)
  rotate_left
  ·rw [if_pos (Or.inr (of_decide_eq_true c2))] at hap
   simp [a8H,q1,q2,q4,q18,q19,q20,hH4,hlt,hlt',c1,c2,w3]
   exact ⟨d.safe.length-(i+1),by omega,i+1,by omega,rfl,by simp,⟨Ds,Dw⟩,hap,hs,by simp only;omega,by simpa using hD,by first|exact hfr|exact hfr.mono (by omega)⟩
  ·rw [if_neg (by have:=of_decide_eq_false c2;simp [c1,this])] at hap
   obtain ⟨l1,l2⟩:=b21 ⟨Ds,Dw⟩ i blank
   rcases hp:b0a ⟨Ds,Dw⟩ i blank with ⟨D2,c⟩
   rw [hp] at hap l1 l2
   simp only at hap l1 l2
   by_cases hc:c=0
   ·rw [if_pos hc] at hap
    subst hc
    rcases hD with hH3|⟨j1,j2,hjj,hH3,hj1,hj2⟩
    ·simp [a8H,q1,q2,q4,q18,q19,q20,hH4,hlt,hlt',c1,c2,w3,hH3,b1,b2,hp,a1n,a0w,hfu,b62]
     refine ⟨d.safe.length-(i+1),by omega,i+1,by omega,rfl,by simp,D2,hap,by omega,by omega,⟨_,_,_,_,?_,⟨⟨⟨rfl,rfl⟩,rfl⟩,⟨rfl,rfl⟩,rfl⟩,?_,?_⟩,?_⟩
     ·simp
     ·simp
     ·simp
     ·have hf:=hfr
      repeat' (first|exact hf.mono (by first|omega|(simp<;>omega))|(refine a0v.set' ?_ (by first|omega|(simp<;>omega))))
    ·simp [a8H,q1,q2,q4,q18,q19,q20,hH4,hlt,hlt',c1,c2,w3,hH3,hj1,hj2,b1,b2,hp,a1n,a0w,hfu,b62]
     refine ⟨d.safe.length-(i+1),by omega,i+1,by omega,rfl,by simp,D2,hap,by omega,by omega,⟨_,_,_,_,?_,⟨⟨⟨rfl,rfl⟩,rfl⟩,⟨rfl,rfl⟩,rfl⟩,?_,?_⟩,?_⟩
     ·simp
     ·simp
     ·simp
     ·have hf:=hfr
      repeat' (first|exact hf.mono (by first|omega|(simp<;>omega))|(refine a0v.set' ?_ (by first|omega|(simp<;>omega))))
   ·rw [if_neg hc] at hap
    have er2:a2Q d at_=(noD,c):=by rw [er1,<-hap,if_neg hc]
    rcases hD with hH3|⟨j1,j2,hjj,hH3,hj1,hj2⟩
    ·simp [a8H,q1,q2,q4,q18,q19,q20,hH4,hlt,hlt',c1,c2,w3,hH3,b1,b2,hp,a1n,a0w,hfu,b62,hc,er2,noD]
    ·simp [a8H,q1,q2,q4,q18,q19,q20,hH4,hlt,hlt',c1,c2,w3,hH3,hj1,hj2,b1,b2,hp,a1n,a0w,hfu,b62,hc,er2,noD]
 ·have:i=d.safe.length:=by omega
  subst this
  rw [List.drop_length,a3E] at hap
  have er2:a2Q d at_=a3J ⟨Ds,Dw⟩:=by rw [er1,<-hap,if_pos rfl]
  rcases hD with hH3|⟨j1,j2,hjj,hH3,hj1,hj2⟩
  ·simp [a8H,q1,q2,q4,q18,q19,q20,hH4,hH3,b1,b2,er2,a1n,a0w,hfu,b62]
  ·simp [a8H,q1,q2,q4,q18,q19,q20,hH4,hH3,hj1,hj2,b1,b2,er2,a1n,a0w,hfu,b62]
open Go Go.Proofs
def b1U:List AV->Option (Prop×AV):=t2 (fun a _=>a.length<4611686018427387904) fun a b:List a0s=>.c (.raw (.bool (decide (a=b))))
@[simp] theorem c7A {l:List AV}:b1U l=(t2 (fun a _=>a.length<4611686018427387904) fun a b:List a0s=>.c (.raw (.bool (decide (a=b))))) l:=(rfl)
def FE0:CT:=(85,.pu b1U)::FT5
theorem b9j:a07 Tryz.prog FE0:=⟨a1s fun a b h=>a7R a b h,b9i⟩
@[simp] theorem c4r:a0c FE0 85=some (.pu b1U):=(rfl)
@[simp] theorem c7B {n:Nat} (h:(n==85)=false):a0c FE0 n=a0c FT5 n:=by
 simp only [Bool.or_eq_false_iff,beq_eq_false_iff_ne,ne_eq] at h
 simp [FE0,a0c,h]
theorem c05 (a b:OpV) (ha:a.gone.length<4611686018427387904):PEv Tryz.prog 60 [Arg.enc a,Arg.enc b] (.c (.raw (.bool (a1S a b)))):=by
 refine a0e mixed b9j Tryz.func60 d4N d4O (by kernel_rfl) (by simp) (by simp [a0d]) ?_
 have hz:=b89 a.after b.after
 cases c2:decide (a.site=b.site)
 ·simp [s60,a0d,a1S,hz,c2,ha]
 cases c3:decide (a.seq=b.seq)
 ·simp [s60,a0d,a1S,hz,c2,c3,ha]
 cases c4:decide (a.kind=b.kind)
 ·simp [s60,a0d,a1S,hz,c2,c3,c4,ha]
 cases c5:decide (a.after=b.after)
 ·rw [c5] at hz
  simp [s60,a0d,a1S,hz,c2,c3,c4,c5,ha]
 rw [c5] at hz
 cases c6:decide (a.text=b.text)
 ·simp [s60,a0d,a1S,hz,c2,c3,c4,c5,c6,ha]
 cases c1:decide (a.gone=b.gone)
 ·simp [s60,a0d,a1S,hz,c1,c2,c3,c4,c5,c6,ha]
 cases c7:decide (a.of_=b.of_)
 ·simp [s60,a0d,a1S,hz,c1,c2,c3,c4,c5,c6,c7,ha]
 cases c8:decide (a.num=b.num)
 ·simp [s60,a0d,a1S,hz,c1,c2,c3,c4,c5,c6,c7,c8,ha]
 ·simp [s60,a0d,a1S,hz,c1,c2,c3,c4,c5,c6,c7,c8,ha]
def b1V:List AV->Option (Prop×AV):=t2 (fun a _=>a.gone.length<4611686018427387904) fun a b:OpV=>.c (.raw (.bool (a1S a b)))
@[simp] theorem c7C {l:List AV}:b1V l=(t2 (fun a _=>a.gone.length<4611686018427387904) fun a b:OpV=>.c (.raw (.bool (a1S a b)))) l:=(rfl)
def FE1:CT:=(60,.pu b1V)::FE0
theorem b9k:a07 Tryz.prog FE1:=⟨a1s fun a b h=>c05 a b h,b9j⟩
@[simp] theorem c4s:a0c FE1 60=some (.pu b1V):=(rfl)
@[simp] theorem c7D {n:Nat} (h:(n==60)=false):a0c FE1 n=a0c FE0 n:=by
 simp only [Bool.or_eq_false_iff,beq_eq_false_iff_ne,ne_eq] at h
 simp [FE1,a0c,h]
def a89 (a b:a0i):Bool:=(a.join==b.join)&&decide (a.a13=b.a13)&&a1S a.op b.op
theorem b23 (a b:a0i):a89 a b=decide (a=b):=by
 obtain ⟨a1,a2,a3⟩:=a
 obtain ⟨b1,b2,b3⟩:=b
 simp only [a89,a8S]
 rw [Bool.eq_iff_iff]
 simp only [Bool.and_eq_true,beq_iff_eq,decide_eq_true_eq,a0i.mk.injEq,and_assoc]
theorem b37 (a b:a0i) (ha:a.op.gone.length<4611686018427387904):PEv Tryz.prog 29 [Arg.enc a,Arg.enc b] (.c (.raw (.bool (a89 a b)))):=by
 refine a0e mixed b9k Tryz.func29 d4h d4i (by kernel_rfl) (by simp) (by simp [a0n,a0d]) ?_
 cases c1:(a.join==b.join)
 ·simp [s29,a0n,a0d,a89,c1,ha]
 cases c2:decide (a.a13=b.a13)
 ·simp [s29,a0n,a0d,a89,c1,c2,ha]
 ·simp [s29,a0n,a0d,a89,c1,c2,ha]
def b1W:List AV->Option (Prop×AV):=t2 (fun a _=>a.op.gone.length<4611686018427387904) fun a b:a0i=>.c (.raw (.bool (a89 a b)))
@[simp] theorem c7E {l:List AV}:b1W l=(t2 (fun a _=>a.op.gone.length<4611686018427387904) fun a b:a0i=>.c (.raw (.bool (a89 a b)))) l:=(rfl)
def FE2:CT:=(29,.pu b1W)::FE1
theorem b9l:a07 Tryz.prog FE2:=⟨a1s fun a b h=>b37 a b h,b9k⟩
@[simp] theorem c4t:a0c FE2 29=some (.pu b1W):=(rfl)
@[simp] theorem c7F {n:Nat} (h:(n==29)=false):a0c FE2 n=a0c FE1 n:=by
 simp only [Bool.or_eq_false_iff,beq_eq_false_iff_ne,ne_eq] at h
 simp [FE2,a0c,h]
def okL (l:List a0i):Prop:=∀e∈l,e.op.gone.length<4611686018427387904
theorem a5V (a b:List a0i) (ha:a.length<4611686018427387904) (hg:okL a):PEv Tryz.prog 12 [Arg.enc a,Arg.enc b] (.c (.raw (.bool (decide (a=b))))):=by
 refine a0e mixed b9l Tryz.func12 sl12 d3P (by kernel_rfl) (by simp) (by simp) ?_
 simp [s12]
 refine ⟨fun h e=>h (by rw [e]),fun hl=>?_⟩
 have hl:a.length=b.length:=by omega
 refine a1x (fun n st=>∃i:Nat,i<=a.length/\n=a.length-i/\st.s 0=.c (.sl .brw false (a0a a))/\st.s 1=.c (.sl .brw false (a0a b))/\st.s 5=.c (.raw (.int .i64 i))/\a.take i=b.take i) a.length ⟨0,by simp⟩ ?_
 rintro n st ⟨i,hi,rfl,h0,h1,h5,hp⟩
 by_cases hlt:i<a.length
 ·have hb:i<b.length:=by omega
  have hgi:a[i].op.gone.length<4611686018427387904:=hg _ (List.getElem_mem hlt)
  have hw:IntKind.wrap .i64 ((i:Int)+1)=((i+1:Nat):Int):=by rw [a0f]<;>omega
  cases c:a89 a[i] b[i]
  ·simp [b77,h0,h1,h5,hlt,hb,a0n,a0d,c,hgi]
   rintro rfl
   rw [b23] at c
   simp at c
  ·simp [b77,h0,h1,h5,hlt,hb,a0n,a0d,c,hgi,hw]
   exact ⟨a.length-(i+1),by omega,i+1,by omega,rfl,by simp,b06 hp hlt hb (by rw [b23] at c;exact of_decide_eq_true c)⟩
 ·have:i=a.length:=by omega
  subst this
  simp [b77,h0,h1,h5]
  rw [List.take_length,hl,List.take_length] at hp
  exact hp
open Go
variable {P:Program}
theorem b6g {C:Ctx P} {H H':Heap} {ρ ρ':Lies} {w:World} {F':Tag->Nat->Prop} {id:Id} {v:Value} {e sz:Nat} {xs:List (List AC)} (hH:a1A C H ρ w) (h:a0C w (Fr C H ρ) H ρ (.so id 0 xs.length) v) (hid:H id=.arr e sz false xs)
  (hr:∀r∈xs,∀c∈r,a1L c) (hF:∀t b,Fr C H ρ t b->F' t b) (hnm:∀b c s,ρ id=some (b,c,s)->C.p<=b/\¬C.B b->F' .old b):a0C w F' H' ρ' (.sl .old false xs) v:=by
 have hrows:rowsOf H (.so id 0 xs.length)=some xs:=by simp [rowsOf,hid]
 have hin:∀c u,a1L c->a0C w (Fr C H ρ) H ρ c u->a0C w F' H' ρ' c u:=fun c u hc hu=>hu.b0y hc fun t b _ hb=>hF t b hb
 have hs:a1p ρ id 0 xs.length v:=by
  cases h with
  |so _ _ _ _ hk hs=>exact hs (by rw [hid];rfl)
 unfold a1p at hs
 rcases (hH.row id e sz false xs hid).lies with ⟨q1,q2⟩|⟨b',cap',cur,q1,q0,q3,_⟩
 ·rw [q1] at hs;subst q2;exact .a0H _ _ _ hs.2.2
 ·have hnm':=hnm b' cap' sz q1 ⟨q0,hH.maps.not id b' cap' sz (by rw [hid];rfl) q1⟩
  rw [q1] at hs
  obtain ⟨o'',he,_⟩:=hs
  have hb:b'<w.heap.size:=q3.lt
  rcases a1B hH h hrows with ⟨hn,rfl⟩|⟨b,o',cap,sz',rfl,g1,g2,g3⟩
  ·exact .a0H _ _ _ hn
  ·cases he
   obtain ⟨news,n1,n2,n3,n4⟩:=a16 g1 g3
   have hbl:∀k,k<xs.length*sz'->∃u,w.cell? ⟨b',o''+k,none⟩=some u/\news[k]?=some u:=fun k hk=>by
    have:k<news.length:=by omega
    have h1:=n2 k news[k] (List.getElem?_eq_getElem this)
    rw [Addr.add_lit] at h1
    exact ⟨_,h1,List.getElem?_eq_getElem this⟩
   refine .sl _ _ xs b' o'' _ sz' (fun k=>news.getD k undef) hb hnm' g2 (fun e=>by cases e) (fun i r hi=>g1 r (List.mem_of_getElem? hi)) (fun k hk=>?_) (fun k hk=>?_) (fun i j r c hi hj=>?_)
   ·obtain ⟨u,u1,u2⟩:=hbl k hk
    rw [u1];simp [List.getD,u2]
   ·obtain ⟨u,u1,u2⟩:=hbl k hk
    have:news.getD k undef=u:=by simp [List.getD,u2]
    rw [this];exact n3 u (List.mem_of_getElem? u2)
   ·obtain ⟨u,u1,u2,u3⟩:=n4 i j r c hi hj
    have:news.getD (i*sz'+j) undef=u:=by simp [List.getD,u1]
    rw [this]
    exact hin _ _ (hr r (List.mem_of_getElem? hi) c (List.mem_of_getElem? hj)) u3
theorem c06 {C:Ctx P} {H H2:Heap} {ρ:Lies} {w:World} {id:Id} {v:Value} {e sz:Nat} {xs:List (List AC)} (hH:a1A C H ρ w) (h:a0C w (Fr C H ρ) H ρ (.so id 0 xs.length) v) (hid:H id=.arr e sz false xs)
  (hr:∀r∈xs,∀c∈r,a1L c) (hF:∀t b,Fr C H ρ t b->Fr C H2 ρ t b) (hnm:∀b c s,ρ id=some (b,c,s)->¬Mut H2 ρ b):a0C w (Fr C H2 ρ) H2 ρ (.sl .old false xs) v:=
 b6g hH h hid hr hF fun b c s h1 h2=>⟨⟨.inl h2.1,h2.2⟩,hnm b c s h1⟩
def c14 (H:Heap) (id o:Id) (e2 sz2:Nat) (rows xs:List (List AC)) (k j:Nat) (r:List AC):Heap:=
 hset (hset H id .dead) o (.arr e2 sz2 false (rows.set k (r.set j (.sl .old false xs))))
theorem b8v {C:Ctx P} {H:Heap} {ρ:Lies} {w:World} {id o:Id} {e sz e2 sz2:Nat} {xs rows:List (List AC)} {k j:Nat} {r:List AC} (hH:a1A C H ρ w) (hid:H id=.arr e sz false xs)
  (hx:∀r∈xs,∀c∈r,a1L c) (ho:H o=.arr e2 sz2 false rows) (hne:o≠id) (hr:rows[k]?=some r) (hj:r[j]?=some (.so id 0 xs.length)) :
  a1A C (c14 H id o e2 sz2 rows xs k j r) ρ w/\a1c w w (Fr C H ρ) (Fr C (c14 H id o e2 sz2 rows xs k j r) ρ) H (c14 H id o e2 sz2 rows xs k j r) ρ ρ:=by
 generalize hH2:c14 H id o e2 sz2 rows xs k j r=H2
 have g0:∀i,H2 i=if i=o then .arr e2 sz2 false (rows.set k (r.set j (.sl .old false xs))) else if i=id then .dead else H i:=fun i=>by
  rw [<-hH2];rfl
 have gun:∀i,H2 i=.a0b↔H i=.a0b:=fun i=>by
  rw [g0]
  split
  ·rename_i h;subst h;rw [ho];simp
  ·split
   ·rename_i h;subst h;rw [hid];simp
   ·exact Iff.rfl
 have b69:∀{i e' sz' f' rs},H2 i=.arr e' sz' f' rs->∃rs0,H i=.arr e' sz' f' rs0/\i≠id/\rs0.length=rs.length:=fun {i e' sz' f' rs} h=>by
  rw [g0] at h
  split at h
  ·rename_i hi
   subst hi
   cases h
   exact ⟨rows,ho,hne,by simp⟩
  ·split at h
   ·cases h
   ·rename_i hi
    exact ⟨rs,h,hi,rfl⟩
 have gmp:∀{i ag es},H2 i=.mp ag es->H i=.mp ag es:=fun {i ag es} h=>by
  rw [g0] at h
  repeat' split at h
  all_goals first|exact h|cases h
 have b0w:∀b,Mut H2 ρ b->Mut H ρ b:=fun b m=>by
  rcases a2o m with ⟨i,e',sz',rs,cap,s,h1,h2⟩|⟨i,ag,es,cap,s,h1,h2⟩
  ·obtain ⟨rs0,h3,_,_⟩:=b69 h1
   exact a4z h3 h2
  ·exact a9i (gmp h1) h2
 have hF:∀t b,Fr C H ρ t b->Fr C H2 ρ t b:=fun t b h=>⟨h.1,fun q=>h.2 (b0w b q)⟩
 have hk:a1c w w (Fr C H ρ) (Fr C H2 ρ) H H2 ρ ρ:=by
  refine ⟨Nat.le_refl _,fun t b h _=>⟨hF t b h,rfl⟩,fun i hi=>⟨fun q=>hi ((gun i).1 q),fun hl=>⟨?_,rfl⟩⟩⟩
  cases h2:H2 i with
  |arr e' sz' f' rs=>
   obtain ⟨rs0,h3,_,_⟩:=b69 h2
   rw [h3];rfl
  |mp ag es=>rw [gmp h2];rfl
  |_=>rw [h2] at hl;cases hl
 have hnm:∀b c s,ρ id=some (b,c,s)->¬Mut H2 ρ b:=fun b c s hρ m=>by
  rcases a2o m with ⟨i,e',sz',rs,cap,s',h1,h2⟩|⟨i,ag,es,cap,s',h1,h2⟩
  ·obtain ⟨rs0,h3,h4,_⟩:=b69 h1
   exact h4 (hH.inj i id e' sz' rs0 e sz false xs b cap s' c s h3 hid h2 hρ)
  ·exact hH.apart hid (gmp h1) hρ h2
 refine ⟨⟨hH.below,fun i e' sz' f' rs hi=>?_,fun i i' e' sz' rs e'' d03 f'' rs' b c s c' s' h1 h2=>?_,?_,hH.maps.keep hk (fun i ag es q=>⟨gmp q,rfl,fun _ _ _ _=>rfl⟩) (fun i b c s hu hl=>by rw [(gun i).2 hu] at hl;cases hl) fun _ _=>rfl⟩,hk⟩
 ·by_cases hio:i=o
  ·subst hio
   rw [g0,if_pos rfl] at hi
   cases hi
   have hrow:=hH.row i e2 sz2 false rows ho
   refine ⟨fun q r' hq=>?_,?_⟩
   ·rw [List.getElem?_set] at hq
    split at hq
    ·split at hq
     ·cases hq
      rw [List.length_set]
      exact hrow.a2e k r hr
     ·cases hq
    ·exact hrow.a2e q r' hq
   ·rcases hrow.lies with ⟨l1,l2⟩|⟨b,cap,cur,l1,l2,l3,l4,l5,l6,l7⟩
    ·subst l2;simp at hr
    ·refine .inr ⟨b,cap,cur,l1,l2,l3,by simpa using l4,l5,l6,fun q q' r' c hq hq'=>?_⟩
     rw [List.getElem?_set] at hq
     split at hq
     ·rename_i hkq
      subst hkq
      split at hq
      ·cases hq
       rw [List.getElem?_set] at hq'
       split at hq'
       ·rename_i hjq
        subst hjq
        split at hq'
        ·cases hq'
         obtain ⟨v,v1,v2,v3⟩:=l7 k j r _ hr hj
         exact ⟨v,v1,v2,c06 hH v3 hid hx hF hnm⟩
        ·cases hq'
       ·obtain ⟨v,v1,v2,v3⟩:=l7 k q' r c hr hq'
        exact ⟨v,v1,v2,v3.keep hk⟩
      ·cases hq
     ·obtain ⟨v,v1,v2,v3⟩:=l7 q q' r' c hq hq'
      exact ⟨v,v1,v2,v3.keep hk⟩
  ·have h3:H i=.arr e' sz' f' rs:=by
    rw [g0,if_neg hio] at hi
    split at hi
    ·cases hi
    ·exact hi
   have hrow:=hH.row i e' sz' f' rs h3
   refine ⟨hrow.a2e,?_⟩
   rcases hrow.lies with l|⟨b,cap,cur,l1,l2,l3,l4,l5,l6,l7⟩
   ·exact .inl l
   ·exact .inr ⟨b,cap,cur,l1,l2,l3,l4,l5,l6,fun q q' r' c hq hq'=>by
     obtain ⟨v,v1,v2,v3⟩:=l7 q q' r' c hq hq'
     exact ⟨v,v1,v2,v3.keep hk⟩⟩
 ·obtain ⟨r0,h3,_,_⟩:=b69 h1
  obtain ⟨r1,h4,_,_⟩:=b69 h2
  exact hH.inj i i' e' sz' r0 e'' d03 f'' r1 b c s c' s' h3 h4
 ·obtain ⟨N,hN⟩:=hH.fin
  exact ⟨N,fun k d hk=>(gun _).2 (hN k d hk)⟩
def c07 (H:Heap) (o:Id) (e2 sz2:Nat) (rows:List (List AC)) (k j:Nat) (r:List AC):Heap:=
 hset H o (.arr e2 sz2 false (rows.set k (r.set j (.sl .old false []))))
theorem b8w {C:Ctx P} {H:Heap} {ρ:Lies} {w:World} {o:Id} {e2 sz2:Nat} {rows:List (List AC)} {k j:Nat} {r:List AC} (hH:a1A C H ρ w)
  (ho:H o=.arr e2 sz2 false rows) (hr:rows[k]?=some r) (hj:r[j]?=some (.raw (.slice none 0 0))) :
  a1A C (c07 H o e2 sz2 rows k j r) ρ w/\a1c w w (Fr C H ρ) (Fr C (c07 H o e2 sz2 rows k j r) ρ) H (c07 H o e2 sz2 rows k j r) ρ ρ:=by
 generalize hH2:c07 H o e2 sz2 rows k j r=H2
 have g0:∀i,H2 i=if i=o then .arr e2 sz2 false (rows.set k (r.set j (.sl .old false []))) else H i:=fun i=>by
  rw [<-hH2];rfl
 have gun:∀i,H2 i=.a0b↔H i=.a0b:=fun i=>by
  rw [g0]
  split
  ·rename_i h;subst h;rw [ho];simp
  ·exact Iff.rfl
 have b69:∀{i e' sz' f' rs},H2 i=.arr e' sz' f' rs->∃rs0,H i=.arr e' sz' f' rs0/\rs0.length=rs.length:=fun {i e' sz' f' rs} h=>by
  rw [g0] at h
  split at h
  ·rename_i hi
   subst hi
   cases h
   exact ⟨rows,ho,by simp⟩
  ·exact ⟨rs,h,rfl⟩
 have gmp:∀{i ag es},H2 i=.mp ag es->H i=.mp ag es:=fun {i ag es} h=>by
  rw [g0] at h
  repeat' split at h
  all_goals first|exact h|cases h
 have b0w:∀b,Mut H2 ρ b->Mut H ρ b:=fun b m=>by
  rcases a2o m with ⟨i,e',sz',rs,cap,s,h1,h2⟩|⟨i,ag,es,cap,s,h1,h2⟩
  ·obtain ⟨rs0,h3,_⟩:=b69 h1
   exact a4z h3 h2
  ·exact a9i (gmp h1) h2
 have hF:∀t b,Fr C H ρ t b->Fr C H2 ρ t b:=fun t b h=>⟨h.1,fun q=>h.2 (b0w b q)⟩
 have hk:a1c w w (Fr C H ρ) (Fr C H2 ρ) H H2 ρ ρ:=by
  refine ⟨Nat.le_refl _,fun t b h _=>⟨hF t b h,rfl⟩,fun i hi=>⟨fun q=>hi ((gun i).1 q),fun hl=>⟨?_,rfl⟩⟩⟩
  cases h2:H2 i with
  |arr e' sz' f' rs=>
   obtain ⟨rs0,h3,_⟩:=b69 h2
   rw [h3];rfl
  |mp ag es=>rw [gmp h2];rfl
  |_=>rw [h2] at hl;cases hl
 refine ⟨⟨hH.below,fun i e' sz' f' rs hi=>?_,fun i i' e' sz' rs e'' d03 f'' rs' b c s c' s' h1 h2=>?_,?_,hH.maps.keep hk (fun i ag es q=>⟨gmp q,rfl,fun _ _ _ _=>rfl⟩) (fun i b c s hu hl=>by rw [(gun i).2 hu] at hl;cases hl) fun _ _=>rfl⟩,hk⟩
 ·by_cases hio:i=o
  ·subst hio
   rw [g0,if_pos rfl] at hi
   cases hi
   have hrow:=hH.row i e2 sz2 false rows ho
   refine ⟨fun q r' hq=>?_,?_⟩
   ·rw [List.getElem?_set] at hq
    split at hq
    ·split at hq
     ·cases hq
      rw [List.length_set]
      exact hrow.a2e k r hr
     ·cases hq
    ·exact hrow.a2e q r' hq
   ·rcases hrow.lies with ⟨l1,l2⟩|⟨b,cap,cur,l1,l2,l3,l4,l5,l6,l7⟩
    ·subst l2;simp at hr
    ·refine .inr ⟨b,cap,cur,l1,l2,l3,by simpa using l4,l5,l6,fun q q' r' c hq hq'=>?_⟩
     rw [List.getElem?_set] at hq
     split at hq
     ·rename_i hkq
      subst hkq
      split at hq
      ·cases hq
       rw [List.getElem?_set] at hq'
       split at hq'
       ·rename_i hjq
        subst hjq
        split at hq'
        ·cases hq'
         obtain ⟨v,v1,v2,v3⟩:=l7 k j r _ hr hj
         have hv:=a0p v3
         exact ⟨v,v1,v2,.a0H _ _ _ (.inl hv)⟩
        ·cases hq'
       ·obtain ⟨v,v1,v2,v3⟩:=l7 k q' r c hr hq'
        exact ⟨v,v1,v2,v3.keep hk⟩
      ·cases hq
     ·obtain ⟨v,v1,v2,v3⟩:=l7 q q' r' c hq hq'
      exact ⟨v,v1,v2,v3.keep hk⟩
  ·have h3:H i=.arr e' sz' f' rs:=by
    rw [g0,if_neg hio] at hi
    exact hi
   have hrow:=hH.row i e' sz' f' rs h3
   refine ⟨hrow.a2e,?_⟩
   rcases hrow.lies with l|⟨b,cap,cur,l1,l2,l3,l4,l5,l6,l7⟩
   ·exact .inl l
   ·exact .inr ⟨b,cap,cur,l1,l2,l3,l4,l5,l6,fun q q' r' c hq hq'=>by
     obtain ⟨v,v1,v2,v3⟩:=l7 q q' r' c hq hq'
     exact ⟨v,v1,v2,v3.keep hk⟩⟩
 ·obtain ⟨r0,h3,_⟩:=b69 h1
  obtain ⟨r1,h4,_⟩:=b69 h2
  exact hH.inj i i' e' sz' r0 e'' d03 f'' r1 b c s c' s' h3 h4
 ·obtain ⟨N,hN⟩:=hH.fin
  exact ⟨N,fun k d hk=>(gun _).2 (hN k d hk)⟩
inductive Frz:Heap->Heap->Prop where
 |refl (H:Heap):Frz H H
 |step {H H':Heap} {id o:Id} {e sz e2 sz2:Nat} {xs rows:List (List AC)} {k j:Nat} {r:List AC} (hid:H id=.arr e sz false xs) (hx:∀r∈xs,∀c∈r,a1L c)
   (ho:H o=.arr e2 sz2 false rows) (hne:o≠id) (hr:rows[k]?=some r) (hj:r[j]?=some (.so id 0 xs.length)) (h:Frz (c14 H id o e2 sz2 rows xs k j r) H'):Frz H H'
 |nil {H H':Heap} {o:Id} {e2 sz2:Nat} {rows:List (List AC)} {k j:Nat} {r:List AC} (ho:H o=.arr e2 sz2 false rows) (hr:rows[k]?=some r) (hj:r[j]?=some (.raw (.slice none 0 0)))
   (h:Frz (c07 H o e2 sz2 rows k j r) H'):Frz H H'
theorem Frz.rel {H H':Heap} (h:Frz H H') {C:Ctx P} {ρ:Lies} {st:St} {a:Act} {w:World} (hr:Rel C ρ st a w) (he:st.H=H):Rel C ρ {st with H:=H'} a w:=by
 induction h generalizing st with
 |refl H=>subst he;exact hr
 |step hid hx ho hne hrw hj h ih=>
  subst he
  obtain ⟨h1,h2⟩:=b8v hr.heap hid hx ho hne hrw hj
  have:=ih (st:={st with H:=c14 st.H _ _ _ _ _ _ _ _ _}) (hr.a4T (T':=st.T) h1 h2) rfl
  exact this
 |nil ho hrw hj h ih=>
  subst he
  obtain ⟨h1,h2⟩:=b8w hr.heap ho hrw hj
  have:=ih (st:={st with H:=c07 st.H _ _ _ _ _ _ _}) (hr.a4T (T':=st.T) h1 h2) rfl
  exact this
def c7G (P:Program) (fn:Func) (ret:AV) (e:AEx) (st:St):Prop:=
 (match e with|.normal|.ret=>True|_=>False)/\∃H' res,Frz st.H H'/\b4y P {st with H:=H'} fn.results.toList=some res/\exV H' res ret/\(a1j res.flat).Nodup
theorem c08 {calm:Array Oper->Bool} (hcalm:b2H P calm) {f:FuncId} {fn:Func} {c:Code} {args:List AV} {ret:AV} (hf:P.funcs[f]?=some fn) (hb:fn.body=some c)
  (hok:a0R calm fn args.length=true) (hret:∀c∈ret.flat,a6v c) (harg:∀x∈args,∀c∈x.flat,VOK c) (h:awp P c (c7G P fn ret) (a4Y args)):PEv P f args ret:=by
 simp only [a0R,hb,Bool.and_eq_true,decide_eq_true_eq,bne_iff_ne,ne_eq] at hok
 obtain ⟨⟨hname,hcode⟩,hle⟩:=hok
 refine ⟨⟨by simp [a3k,hf,hb,hname],hret,harg⟩,fun w hI G vs hsz hargs nm inj=>?_⟩
 refine calls_of_wp hf hb (Code.wp_mono (fun e a w' q=>?_) (a1M calm hcalm c fn.ntmps _ a0t (a4Y args) _ w hcode (by simp;omega) (b0O hsz hargs) h))
 have fin:a1o (Ctx.of w hI G) fn.ntmps (fun st=>∃H' res,Frz st.H H'/\b4y P {st with H:=H'} fn.results.toList=some res/\exV H' res ret/\(a1j res.flat).Nodup) a w'->
   a.defers=[]/\∃v,(results fn a.tmps).run P w'=.ok v w'/\(∃v',Ending.returned v=.returned v'/\∃ρ,a1A (Ctx.of w hI G) (adH nm 0 ret.flat a0j) ρ w'/\
    a2f w' (Fr (Ctx.of w hI G) (adH nm 0 ret.flat a0j) ρ) (adH nm 0 ret.flat a0j) ρ (ret.ad nm) v'):=fun ⟨_,ρ,st,hr,H',res,gf,g1,g2,g3⟩=>by
  have hr':=gf.rel hr rfl
  obtain ⟨v,h1,h2⟩:=a4c hr' g1
  obtain ⟨ρ',h3,h4⟩:=a5q hr' h2 hret g2 g3 nm inj
  exact ⟨hr.a6a,v,h1,v,rfl,ρ',h3,h4⟩
 cases e with
 |normal=>exact fin (a1o.mono q fun st hs=>hs.2)
 |ret=>exact fin (a1o.mono q fun st hs=>hs.2)
 |exit id=>
  obtain ⟨_,_,_,_,hs⟩:=q
  exact hs.1.elim
 |_=>exact q.elim
theorem b6h (hm:P.follows .mixedOrders=true) {F:CT} (hF:a07 P F) {f:FuncId} {fn:Func} {s:SC} {args:List AV} {ret:AV} (hf:P.funcs[f]?=some fn) (hs:a0r fn.body s=some (unK s,true))
  (hok:a0R a0q fn 0=true) (hle:Nat.ble args.length fn.ntmps=true) (hret:∀c∈ret.flat,a6v c) (harg:∀x∈args,∀c∈x.flat,VOK c) (h:a14 P F s (c7G P fn ret) (a4Y args)):PEv P f args ret:=by
 cases hb:fn.body with
 |none=>rw [hb] at hs;cases hs
 |some c=>
  rw [hb] at hs
  simp only [a0r,Option.map_some,Option.some.injEq,Prod.mk.injEq] at hs
  refine c08 (a8y hm) hf hb ?_ hret harg (a7G hF hs.1 hs.2 h)
  simp only [a0R,hb,Bool.and_eq_true] at hok ⊢
  exact ⟨hok.1,by simpa using Nat.le_of_ble_eq_true hle⟩
@[simp] theorem c7H {fn:Func} {ret:AV} {st:St}:c7G P fn ret .ret st=∃H' res,Frz st.H H'/\b4y P {st with H:=H'} fn.results.toList=some res/\exV H' res ret/\(a1j res.flat).Nodup:=by simp [c7G]
open Go Go.Proofs
theorem b24 (n:Int):PEv Tryz.prog 8 [.c (.raw (.int .i64 n))] (.c (.raw (.int .i64 n))):=by
 refine a0e mixed (F:=[]) trivial Tryz.func8 sl8 ok8 (by kernel_rfl) (by simp) (by simp) ?_
 simp [s8]
def b0h (n:Int):a0i:=⟨true,n,a1E⟩
open Go
open Go Go.Proofs
def c09:List AV->Option (Prop×AV):=t2 (fun a _=>a.length<4611686018427387904/\okL a) fun a b:List a0i=>.c (.raw (.bool (decide (a=b))))
def b6i:List AV->Option (Prop×AV):=t3 (fun (d:a0l) (n:Int) (e:a0i)=>d.safe.length<1000000/\d.wait.length<1000000/\e.op.text.length<1000000/\e.op.gone.length<1000000/\n<9223372036854775808) fun (d:a0l) (n:Int) (e:a0i)=>a2d (a0J d n e)
@[simp] theorem d0u {l:List AV}:b6i l=(t3 (fun (d:a0l) (n:Int) (e:a0i)=>d.safe.length<1000000/\d.wait.length<1000000/\e.op.text.length<1000000/\e.op.gone.length<1000000/\n<9223372036854775808) fun (d:a0l) (n:Int) (e:a0i)=>a2d (a0J d n e)) l:=(rfl)
def c1a:List AV->Option (Prop×AV):=t2 (fun (d:a0l) _=>d.safe.length<1000000/\d.wait.length<1000000) fun (d:a0l) (n:Int)=>a1n (a2Q d n)
def b6j:List AV->Option (Prop×AV):=t1 (fun _=>True) fun n:Int=>.c (.raw (.int .i64 n))
@[simp] theorem d0v {l:List AV}:b6j l=(t1 (fun _=>True) fun n:Int=>.c (.raw (.int .i64 n))) l:=(rfl)
def FE3:CT:=(12,.pu c09)::(7,.pu b6i)::(13,.pu c1a)::(8,.pu b6j)::FE2
theorem b9m:a07 Tryz.prog FE3:=⟨a1s fun a b h=>a5V a b h.1 h.2,
 b2Q fun d n e h=>b0g d n e h.1 h.2.1 h.2.2.1 h.2.2.2.1 h.2.2.2.2,
 a1s fun d n h=>b22 d n h.1 h.2,
 a0o fun n _=>b24 n,b9l⟩
@[simp] theorem c7I:a0c FE3 7=some (.pu b6i):=(rfl)
@[simp] theorem c7J:a0c FE3 8=some (.pu b6j):=(rfl)
@[simp] theorem c7K {n:Nat} (h:(n==12||n==7||n==13||n==8)=false):a0c FE3 n=a0c FE2 n:=by
 simp only [Bool.or_eq_false_iff,beq_eq_false_iff_ne,ne_eq] at h
 simp [FE3,a0c,h]
def d1S:a0l:=⟨List.replicate 4 blank,[]⟩
def c1b:a0l:=(a0J d1S 0 (b0h 5)).1
def c4u:a0l:=(a3J c1b).1
theorem d5G:a0J d1S 0 (b0h 5)=(c1b,1,0):=by decide +kernel
theorem d5H:a3J c1b=(c4u,0):=by decide +kernel
theorem d5I:a4L c4u=([b0h 5],1,0):=by decide +kernel
theorem d5J:c1b.safe.length=4/\c1b.wait.length=1/\c4u.safe.length=4/\c4u.wait.length=0:=by decide +kernel
theorem a7X:PEv Tryz.prog 15 [] (.c (.raw (.bool true))):=by
 refine a0e mixed b9m Tryz.func15 d3T d3U (by kernel_rfl) (by simp) (by simp) ?_
 have w1:a0J ⟨List.replicate 4 blank,[]⟩ 0 ⟨true,5,0,0,0,⟨0,0,0⟩,[],[],0,0,0⟩=(c1b,1,0):=d5G
 have w2:=d5H
 have w3:=d5I
 obtain ⟨l1,l2,l3,l4⟩:=d5J
 generalize c1b=D1 at *
 generalize c4u=D2 at *
 obtain ⟨a1,b1⟩:=D1
 obtain ⟨a2,b2⟩:=D2
 simp only at l1 l2 l3 l4
 obtain rfl:b2=[]:=List.eq_nil_of_length_eq_zero l4
 simp [-List.reduceReplicate,s15,a0w,a1n,a2d,a6Y,w1,w2,w3,l1,l2,l3,l4,b0h,a0n,a0d,a1E]
open Go Go.Proofs
def FG0:CT:=FE3
theorem c4v:a07 Tryz.prog FG0:=b9m
attribute [simp] FG0
open Go Go.Proofs
def FG1:CT:=FG0
theorem c4w:a07 Tryz.prog FG1:=c4v
attribute [simp] FG1
def FG2:CT:=FG1
theorem c4x:a07 Tryz.prog FG2:=c4w
attribute [simp] FG2
def FG3:CT:=FG2
theorem c4y:a07 Tryz.prog FG3:=c4x
attribute [simp] FG3
def FG4:CT:=FG3
theorem c4z:a07 Tryz.prog FG4:=c4y
attribute [simp] FG4
def c1c:List AV->Option (Prop×AV):=t0 (.c (.raw (.bool true)))
def FG5:CT:=(15,.pu c1c)::FG4
theorem c4A:a07 Tryz.prog FG5:=⟨b2R a7X,c4z⟩
@[simp] theorem c7L {n:Nat} (h:(n==15)=false):a0c FG5 n=a0c FG4 n:=by
 simp only [Bool.or_eq_false_iff,beq_eq_false_iff_ne,ne_eq] at h
 simp [FG5,a0c,h]
open Go
theorem a4M {P:Program} {F:CT} {x y:SC} {Q:AEx->St->Prop} {st:St} (R:St->Prop) (h1:∀R':St->Prop,(∀s,R s->R' s)->a14 P F x (fun e st'=>e=.normal/\R' st') st) (h2:∀st',R st'->a14 P F y Q st'):a14 P F (.seq x y) Q st:=by
 show a14 P F x (a2V (a14 P F y Q) Q) st
 exact a19 (fun e st' ⟨he,hr⟩=>by subst he;exact h2 _ hr) (h1 R fun _ h=>h)
theorem d0w {P:Program} {F:CT} {x y:SC} {Q:AEx->St->Prop} {st:St} (id:Nat) (R:St->Prop) (h1:∀R':St->Prop,(∀s,R s->R' s)->a14 P F x (fun e st'=>e=.exit id/\R' st') st) (h2:∀st',R st'->Q (.exit id) st'):a14 P F (.seq x y) Q st:=by
 show a14 P F x (a2V (a14 P F y Q) Q) st
 exact a19 (fun e st' ⟨he,hr⟩=>by subst he;exact h2 _ hr) (h1 R fun _ h=>h)
theorem a5y {P:Program} {F:CT} {x y:SC} {Q:AEx->St->Prop} {st:St} (R:St->Prop) (h1:∀R':St->Prop,(∀s,R s->R' s)->a14 P F x (fun e st'=>e=.ret/\R' st') st) (h2:∀st',R st'->Q .ret st'):a14 P F (.seq x y) Q st:=by
 show a14 P F x (a2V (a14 P F y Q) Q) st
 exact a19 (fun e st' ⟨he,hr⟩=>by subst he;exact h2 _ hr) (h1 R fun _ h=>h)
theorem a61 {P:Program} {F:CT} {x:SC} {Q:AEx->St->Prop} {st:St} (I:Nat->St->Prop) (n0:Nat) (h0:I n0 st)
  (h:∀n st',I n st'->∀J:Nat->St->Prop,(∀m s,I m s->J m s)->a14 P F x (a2V (fun d0Y=>∃m,m<n/\J m d0Y) Q) st'):a14 P F (.loop x) Q st:=
 a1x I n0 h0 fun n st' hi=>h n st' hi I fun _ _ h=>h
open Go Go.Proofs
theorem a5W:∀(k i n:Nat),0<i->n<128^i->(a0E k n).length<=i
 |0,i,n,hi,hn=>by simp [a0E];omega
 |k+1,i,n,hi,hn=>by
  by_cases h:n<128
  ·rw [a6R h];simp;omega
  ·rw [a6Q (by omega)]
   cases i with
   |zero=>omega
   |succ i=>
    have:0<i:=by
     rcases Nat.eq_zero_or_pos i with h0|h0
     ·subst h0;simp at hn;omega
     ·exact h0
    have:=a5W k i (n/128) this (by rw [Nat.pow_succ] at hn;omega)
    simp;omega
open Go Go.Proofs
def FH0:CT:=FG5
theorem c4B:a07 Tryz.prog FH0:=c4A
attribute [simp] FH0
def FH1:CT:=FH0
theorem c4C:a07 Tryz.prog FH1:=c4B
attribute [simp] FH1
open Go Go.Proofs Go.Shelf
def lays197_ren:Go.Shelf.Ren:=⟨fun|197=>63|260=>87|n=>n,fun|9=>9|21=>21|3=>3|4=>4|5=>5|105=>110|119=>147|0=>0|46=>98|139=>150|138=>149|n=>n,fun|3=>0|4=>1|n=>n⟩
theorem lays197:Lays.n197 Tryz.prog lays197_ren where
 mixed:=by kernel_rfl
 f197:=Tryz.func63.trans (congrArg some (by kernel_rfl))
 f260:=Tryz.func87.trans (congrArg some (by kernel_rfl))
 t0:=Tryz.underlying0
 a0:=Tryz.isAgg0
 z0:=Tryz.sizeOf0
 v0:=Tryz.zeroValue0
 t3:=Tryz.underlying3
 a3:=Tryz.isAgg3
 z3:=Tryz.sizeOf3
 v3:=Tryz.zeroValue3
 t4:=Tryz.underlying4
 a4:=Tryz.isAgg4
 z4:=Tryz.sizeOf4
 v4:=Tryz.zeroValue4
 t5:=Tryz.underlying5
 a5:=Tryz.isAgg5
 z5:=Tryz.sizeOf5
 v5:=Tryz.zeroValue5
 t9:=Tryz.underlying9
 a9:=Tryz.isAgg9
 z9:=Tryz.sizeOf9
 v9:=Tryz.zeroValue9
 t21:=Tryz.underlying21
 a21:=Tryz.isAgg21
 z21:=Tryz.sizeOf21
 v21:=Tryz.zeroValue21
 t46:=Tryz.underlying98
 a46:=Tryz.isAgg98
 z46:=Tryz.sizeOf98
 v46:=Tryz.zeroValue98
 t105:=Tryz.underlying110
 a105:=Tryz.isAgg110
 z105:=Tryz.sizeOf110
 v105:=Tryz.zeroValue110
 t119:=Tryz.underlying147
 a119:=Tryz.isAgg147
 z119:=Tryz.sizeOf147
 t138:=Tryz.underlying149
 a138:=Tryz.isAgg149
 z138:=Tryz.sizeOf149
 v138:=Tryz.zeroValue149
 t139:=Tryz.underlying150
 a139:=Tryz.isAgg150
 z139:=Tryz.sizeOf150
 v139:=Tryz.zeroValue150
 g3:=by kernel_rfl
 g4:=by kernel_rfl
open Go Go.Proofs
def a2h (e:a0s):Bool:=decide (e=⟨0,0,0⟩)
theorem a7Y (e:a0s):decide (e=⟨0,0,0⟩)=a2h e:=rfl
theorem b8x (e:a0s):PEv Tryz.prog 33 [Arg.enc e] (.c (.raw (.bool (a2h e)))):=by
 refine a0e mixed (F:=[]) trivial Tryz.func33 d4k d4l (by kernel_rfl) (by simp) (by simp) ?_
 simp [s33]
 rw [a2h]
 exact b8f e
theorem b38 (r:Int):PEv Tryz.prog 64 [.c (.raw (.int .i32 r))] (.c (.raw (.bool (a1m r)))):=by
 refine a0e mixed (F:=[]) trivial Tryz.func64 sl64 d4P (by kernel_rfl) (by simp) (by simp) ?_
 by_cases h1:r=10
 ·subst h1
  simp [s64,a1m]
 ·by_cases h2:32<=r
  ·by_cases h3:r<=55295
   ·by_cases h4:r=127
    ·subst h4
     simp [s64,a1m]
    ·simp [s64,a1m,h1,h2,h3,h4]
     omega
   ·by_cases h4:57344<=r
    ·by_cases h5:r<=1114111
     ·by_cases h6:r=65533
      ·subst h6
       simp [s64,a1m]
      ·simp [s64,a1m,h1,h2,h3,h4,h5,h6]
       omega
     ·simp [s64,a1m,h1,h2,h3,h4,h5]
    ·simp [s64,a1m,h1,h2,h3,h4]
  ·have h4:¬57344<=r:=by omega
   simp [s64,a1m,h1,h2,h4]
theorem b6k (o:OpV) (e:a0s):PEv Tryz.prog 36 [Arg.enc o,Arg.enc e] (.c (.raw (.bool (ownB o e)))):=by
 refine a0e mixed (F:=[]) trivial Tryz.func36 sl36 d4o (by kernel_rfl) (by simp) (by simp [a0d]) ?_
 cases h:decide (e.site=o.site)
 ·simp [s36,a0d,ownB,h]
 ·simp [s36,a0d,ownB,h]
theorem b39 (a b:a0s):PEv Tryz.prog 37 [Arg.enc a,Arg.enc b] (.c (.raw (.bool (a5u a b)))):=by
 refine a0e mixed (F:=[]) trivial Tryz.func37 d4p d4q (by kernel_rfl) (by simp) (by simp) ?_
 have hl:a5u a b=if a.site=b.site then (if a.seq=b.seq then decide (a.i<b.i) else decide (a.seq<b.seq)) else decide (a.site<b.site):=by
  simp only [a5u,a4j,orI,b65]
  repeat' split
  all_goals first
   |(simp_all;done)
   |(simp_all;omega)
 cases h1:decide (a.site=b.site)
 ·have h1':=of_decide_eq_false h1
  rw [hl,if_neg h1']
  simp [s37,h1]
 ·have h1':=of_decide_eq_true h1
  rw [hl,if_pos h1']
  cases h2:decide (a.seq=b.seq)
  ·have h2':=of_decide_eq_false h2
   rw [if_neg h2']
   simp [s37,h1,h2]
  ·have h2':=of_decide_eq_true h2
   rw [if_pos h2']
   simp [s37,h1,h2]
open Go Go.Proofs
structure Rn where
 n:Int
 deriving DecidableEq
instance d5K:Enc Rn where
 w:=1
 row b:=[.raw (.int .i32 b.n)]
 dec|[.raw (.int .i32 n)]=>some ⟨n⟩|_=>none
 a3f a:=rfl
 a2S {r a} h:=by split at h<;>simp_all;subst h;rfl
 len _:=rfl
 old a c hc:=by simp at hc;subst hc;exact .raw _
 ret a c hc:=by simp at hc;subst hc;exact .raw _
@[simp] theorem d1T (b:Rn):Enc.row b=[AC.raw (.int .i32 b.n)]:=rfl
@[simp] theorem d6X:Enc.w Rn=1:=rfl
instance d5L:Arg Rn where
 enc w:=.c (.raw (.int .i32 w.n))
 dec|.c (.raw (.int .i32 n))=>some ⟨n⟩|_=>none
 a0X {x a} h:=by split at h<;>simp_all;subst h;rfl
@[simp] theorem d1U (w:Rn):Arg.enc w=.c (.raw (.int .i32 w.n)):=rfl
@[simp] theorem d1V (n:Int):(Arg.dec (.c (.raw (.int .i32 n))):Option Rn)=some ⟨n⟩:=rfl
def a3A (s:List UInt8) (i:Nat):Nat×Nat:=Utf8.decode ⟨s.toArray⟩ i
def a3a (s:List UInt8):Nat->Nat->Option (List Rn)
 |0,_=>some []
 |f+1,i=>if i<s.length then (if a1m ((a3A s i).1:Int)=true then (a3a s f (i+(a3A s i).2)).map (⟨((a3A s i).1:Int)⟩::·) else none) else some []
def runesL (s:List UInt8):Option (List Rn):=a3a s s.length 0
theorem a4N (s:List UInt8):∀f i,match a3a s f i with
  |some l=>Lib.idxFuncFrom (fun r=>!a1m (r:Int)) true ⟨s.toArray⟩ f i=-1/\Lib.runeCountFrom ⟨s.toArray⟩ f i=l.length
  |none=>0<=Lib.idxFuncFrom (fun r=>!a1m (r:Int)) true ⟨s.toArray⟩ f i
 |0,i=>by simp [a3a,Lib.idxFuncFrom,Lib.runeCountFrom]
 |f+1,i=>by
  have ih:=a4N s f (i+(a3A s i).2)
  have hsz:(⟨s.toArray⟩:ByteArray).size=s.length:=by simp [ByteArray.size]
  unfold a3a Lib.idxFuncFrom Lib.runeCountFrom
  rw [hsz]
  by_cases h:i<s.length
  ·rw [if_pos h,if_pos h,if_pos h]
   change (match (if a1m ((a3A s i).1:Int)=true then (a3a s f (i+(a3A s i).2)).map (⟨((a3A s i).1:Int)⟩::·) else none) with
    |some l=>(if (!a1m ((a3A s i).1:Int))=true then (i:Int) else Lib.idxFuncFrom (fun r=>!a1m (r:Int)) true ⟨s.toArray⟩ f (i+(a3A s i).2))=-1/\1+Lib.runeCountFrom ⟨s.toArray⟩ f (i+(a3A s i).2)=l.length
    |none=>0<=(if (!a1m ((a3A s i).1:Int))=true then (i:Int) else Lib.idxFuncFrom (fun r=>!a1m (r:Int)) true ⟨s.toArray⟩ f (i+(a3A s i).2)))
   cases hb:a1m ((a3A s i).1:Int)
   ·simp
   ·simp only [if_true,Bool.not_true,Bool.false_eq_true,if_false]
    cases hr:a3a s f (i+(a3A s i).2) with
    |none=>rw [hr] at ih;simpa using ih
    |some l=>rw [hr] at ih;simp at ih ⊢;omega
  ·simp [if_neg h]
theorem b1X (s:List UInt8):a5c s=(runesL s).isSome:=by
 have h:=a4N s s.length 0
 have hsz:(⟨s.toArray⟩:ByteArray).size=s.length:=by simp [ByteArray.size]
 unfold a5c Lib.idxFunc runesL
 rw [hsz]
 cases hr:a3a s s.length 0 with
 |none=>rw [hr] at h;simpa using h
 |some l=>rw [hr] at h;simp;omega
theorem b4a {s:List UInt8} {l:List Rn} (h:runesL s=some l):a1H s=l.length:=by
 have h':=a4N s s.length 0
 have hsz:(⟨s.toArray⟩:ByteArray).size=s.length:=by simp [ByteArray.size]
 unfold runesL at h
 rw [h] at h'
 unfold a1H Lib.runeCount
 rw [hsz]
 exact h'.2
theorem c1d {w:World} (h:Inv Tryz.prog w):Lib.Utf8Tabs (lays197_ren.g 3) (lays197_ren.g 4) w:=by
 obtain ⟨h1,h2⟩:=h (lays197_ren.g 3) (lays197_ren.g 4) (by kernel_rfl) (by kernel_rfl)
 have e:∀c,(Lib.firstT c:Int)=c2a c:=fun c=>by
  unfold Lib.firstT c2a
  repeat' split
  all_goals first|rfl|omega
 have e2:∀c,(Lib.accLo c:Int)=b4B c:=fun c=>by
  unfold Lib.accLo b4B
  repeat' split
  all_goals rfl
 have e3:∀c,(Lib.accHi c:Int)=b4C c:=fun c=>by
  unfold Lib.accHi b4C
  repeat' split
  all_goals rfl
 exact ⟨fun c hc=>by rw [e];exact h1 c hc,fun i hi=>by rw [e2,e3];exact h2 i hi⟩
def a5h (s:List UInt8):AV:=.t [(false,[.raw (.int .i32 ((Lib.decodeGo ⟨s.toArray⟩).1:Int))]),(false,[.raw (.int .i64 ((Lib.decodeGo ⟨s.toArray⟩).2:Int))])]
theorem c1e {P:Program} {f:FuncId} {args:List AV} {u v:Value} (hok:a3k P f=true) (ha:∀x∈args,∀c∈x.flat,VOK c)
  (h:∀(w:World) (hI:Inv P w) (F:Tag->Nat->Prop) (vs:Array Value),vs.size=args.length->(∀(k:Nat) x,args[k]?=some x->a2f w F a0j a0t x (vs.getD k undef))->
   Calls P f vs w fun e w'=>e=.returned (.tuple #[u,v])/\RowKit.Below w.heap.size w w'):PEv P f args (.t [(false,[.raw u]),(false,[.raw v])]):=by
 refine ⟨⟨hok,by simp [AV.flat],ha⟩,fun w hI G vs hsz hargs nm inj=>?_⟩
 refine (h w hI _ vs hsz hargs).mono ?_
 rintro e w' ⟨rfl,hb⟩
 refine ⟨_,rfl,a0t,⟨hb,(fun id e sz f rows hid=>by cases hid),(fun id id' e sz rows e' sz' f' rows' b c s c' s' hid=>by cases hid),⟨0,fun _ _ _=>rfl⟩,.none (fun _ _ _ h=>by cases h) (fun _ h=>h.elim) (fun _ _ _ _ _ _ h=>h)⟩,?_⟩
 refine .t _ _ rfl fun k b cs hk=>?_
 match k,hk with
 |0,hk=>simp [adT,adL,adC] at hk;obtain ⟨rfl,rfl⟩:=hk;exact .c _ _ (.raw _)
 |1,hk=>simp [adT,adL,adC] at hk;obtain ⟨rfl,rfl⟩:=hk;exact .c _ _ (.raw _)
theorem b6l (s:List UInt8):PEv Tryz.prog 63 [.c (.str s)] (a5h s):=by
 refine c1e (by kernel_rfl) (by simp) fun w hI F vs hs' hr=>?_
 have h0:=a06 (a0m (hr 0 _ rfl))
 rw [vs1 hs' h0]
 exact Any.utf8_DecodeRuneInString lays197 ⟨s.toArray⟩ w (c1d hI)
theorem decode_at (s:List UInt8) (i:Nat) (h:i<s.length):Lib.decodeGo ⟨(s.drop i).toArray⟩=a3A s i:=by
 have hsz:(⟨s.toArray⟩:ByteArray).size=s.length:=by simp [ByteArray.size]
 have he:(⟨(s.drop i).toArray⟩:ByteArray)=(⟨s.toArray⟩:ByteArray).extract i (⟨s.toArray⟩:ByteArray).size:=by
  apply ByteArray.ext
  apply Array.ext'
  rw [Lib.extract_data,hsz]
  simp
  exact (List.take_of_length_le (by simp)).symm
 rw [he,Lib.decodeGo,if_neg (by rw [Lib.tail_size,hsz];omega),Lib.tail_decode]
 rfl
theorem b6m (s:List UInt8) (i:Nat):(a3A s i).2<=4:=by
 unfold a3A
 rw [Lib.decode_at]
 exact Lib.decodeN_le4 _ _ _ _ _
theorem b6n (s:List UInt8) (i:Nat) (h:i<s.length):1<=(a3A s i).2:=Lib.decode_width_pos _ _ (by simpa [ByteArray.size] using h)
def b1Y:List AV->Option (Prop×AV):=t1 (fun _=>True) fun s:List UInt8=>a5h s
@[simp] theorem c7M {l:List AV}:b1Y l=(t1 (fun _=>True) fun s:List UInt8=>a5h s) l:=(rfl)
def b1Z:List AV->Option (Prop×AV):=t1 (fun _=>True) fun r:Rn=>.c (.raw (.bool (a1m r.n)))
@[simp] theorem c7N {l:List AV}:b1Z l=(t1 (fun _=>True) fun r:Rn=>.c (.raw (.bool (a1m r.n)))) l:=(rfl)
def FH2:CT:=(63,.pu b1Y)::(64,.pu b1Z)::FH1
theorem b9n:a07 Tryz.prog FH2:=⟨a0o fun s _=>b6l s,
 a0o fun r _=>b38 r.n,c4C⟩
@[simp] theorem c4D:a0c FH2 63=some (.pu b1Y):=(rfl)
@[simp] theorem c4E:a0c FH2 64=some (.pu b1Z):=(rfl)
@[simp] theorem c7O {n:Nat} (h:(n==63||n==64)=false):a0c FH2 n=a0c FH1 n:=by
 simp only [Bool.or_eq_false_iff,beq_eq_false_iff_ne,ne_eq] at h
 simp [FH2,a0c,h]
def a0W (s:List UInt8):AV:=match runesL s with
 |some l=>.t [(false,[.nw 21 1 (a0a l)]),(false,[.raw (.bool true)])]
 |none=>.t [(false,[.nw 21 1 []]),(false,[.raw (.bool false)])]
def c4F (s:List UInt8) (q:Nat) (st:St):Prop:=∃(i f:Nat) (L:List Rn) (c:AC),q=f/\f+L.length=s.length/\(i<s.length->L.length<=i)/\i<=s.length+4/\st.s 0=.c (.str s)/\st.s 4=.c c/\st.s 5=.c (.raw (.int .i64 i))/\
 a7i st.H 21 1 0 c L/\(a3a s f i).map (L++·)=runesL s/\a0v st.H st.T
theorem b10 (s:List UInt8) (hs:s.length<1000000):PEv Tryz.prog 34 [.c (.str s)] (a0W s):=by
 refine a0e mixed b9n Tryz.func34 sl34 d4m (by kernel_rfl) (by unfold a0W;split<;>simp [a6v]) (by simp) ?_
 simp [s34]
 refine a61 (c4F s) s.length ⟨0,s.length,[],.raw (.slice none 0 0),rfl,by simp,by simp,by omega,by simp,by simp,by simp,a7i.nil,by simp [runesL],by simp;exact a1r.mono (by omega)⟩ ?_
 rintro q st ⟨i,f,L,c,rfl,hf1,hf2,hi,k0,k4,k5,hc,hR,hf⟩ J hJ
 have hfu:∀k d,st.T<=k->st.H (k,d)=.a0b:=hf
 by_cases hlt:i<s.length
 ·have hlt':(i:Int)<s.length:=by omega
  have hL:=hf2 hlt
  obtain ⟨f',rfl⟩:∃f',q=f'+1:=⟨q-1,by omega⟩
  rw [a3a,if_pos hlt] at hR
  have hd:=decode_at s i hlt
  have hw4:=b6m s i
  have hw1:=b6n s i hlt
  rcases hp:a3A s i with ⟨r,w⟩
  rw [hp] at hd hw4 hw1 hR
  simp only at hw4 hw1 hR
  have hdv:a5h (s.drop i)=.t [(false,[.raw (.int .i32 (r:Int))]),(false,[.raw (.int .i64 (w:Int))])]:=by rw [a5h,hd]
  have hw:IntKind.wrap .i64 ((i:Int)+w)=((i+w:Nat):Int):=by rw [a0f]<;>omega
  have hil:(i:Int)<=s.length:=by omega
  have d04:i<=s.length:=by omega
  cases hb:a1m (r:Int)
  ·rw [hb] at hR
   simp at hR
   have hav:a0W s=.t [(false,[.nw 21 1 []]),(false,[.raw (.bool false)])]:=by rw [a0W,<-hR]
   simp [b3P,k0,k4,k5,hlt',hil,d04,hfu,hdv,hb,hav]
  ·rw [hb] at hR
   simp at hR
   have hR':Option.map (fun x=>(L++[⟨(r:Int)⟩])++x) (a3a s f' (i+w))=runesL s:=by rw [<-hR];simp [Function.comp_def]
   have hlen:1+(L.length+1)<=s.length+1:=by omega
   rcases hc with ⟨rfl,rfl⟩|⟨id,rfl,a7t,hid⟩
   ·simp (maxDischargeDepth:=8) [b3P,k0,k4,k5,hlt',hil,d04,hfu,hdv,hb,hw,Nat.le_add_right_of_le]
    refine ⟨f',by omega,hJ _ _ ⟨i+w,f',[⟨(r:Int)⟩],.so (st.T+3,25) 0 1,rfl,by simp at hf1 ⊢;omega,fun _=>by simp;omega,by omega,by simp [k0],by simp,by simp,a7i.so rfl (Nat.zero_le _) (by simp;rfl),by simpa using hR',?_⟩⟩
    simp
    repeat' (first|exact hf.mono (by first|omega|(simp<;>omega))|(refine a0v.set' ?_ (by first|omega|(simp<;>omega))))
   ·obtain ⟨f1,f2,f3⟩:=hf.arr hid
    simp (maxDischargeDepth:=8) [b3P,k0,k4,k5,hlt',hil,d04,hfu,hdv,hb,hw,hid,f1,f2,Nat.le_add_right_of_le]
    refine ⟨by omega,f',by omega,hJ _ _ ⟨i+w,f',L++[⟨(r:Int)⟩],.so (st.T+3,25) 0 (L.length+1),rfl,by simp;omega,fun _=>by simp;omega,by omega,by simp [k0],by simp,by simp,a7i.so (by simp) (Nat.zero_le _) (by simp [a0a]),hR',?_⟩⟩
    simp
    repeat' (first|exact hf.mono (by first|omega|(simp<;>omega))|(refine a0v.set' ?_ (by first|omega|(simp<;>omega))))
 ·have hlt':¬(i:Int)<s.length:=by omega
  have hg:a3a s q i=some []:=by
   cases q with
   |zero=>rfl
   |succ q=>rw [a3a,if_neg hlt]
  rw [hg] at hR
  simp at hR
  rcases hc with ⟨rfl,rfl⟩|⟨id,rfl,a7t,hid⟩
  ·have hav:a0W s=.t [(false,[.nw 21 1 []]),(false,[.raw (.bool true)])]:=by rw [a0W,<-hR];rfl
   simp [b3P,k0,k4,k5,hlt',hav]
  ·obtain ⟨f1,f2,f3⟩:=hf.arr hid
   have hav:a0W s=.t [(false,[.nw 21 1 (a0a L)]),(false,[.raw (.bool true)])]:=by rw [a0W,<-hR]
   simp [b3P,k0,k4,k5,hlt',hid,f1,f2,hav]
open Go Go.Proofs
def b11:List AV->Option (Prop×AV):=t1 (fun _=>True) fun e:a0s=>.c (.raw (.bool (a2h e)))
@[simp] theorem c7P {l:List AV}:b11 l=(t1 (fun _=>True) fun e:a0s=>.c (.raw (.bool (a2h e)))) l:=(rfl)
def b12:List AV->Option (Prop×AV):=t2 (fun _ _=>True) fun (o:OpV) (e:a0s)=>.c (.raw (.bool (ownB o e)))
@[simp] theorem c7Q {l:List AV}:b12 l=(t2 (fun _ _=>True) fun (o:OpV) (e:a0s)=>.c (.raw (.bool (ownB o e)))) l:=(rfl)
def b13:List AV->Option (Prop×AV):=t2 (fun _ _=>True) fun a b:a0s=>.c (.raw (.bool (a5u a b)))
@[simp] theorem c7R {l:List AV}:b13 l=(t2 (fun _ _=>True) fun a b:a0s=>.c (.raw (.bool (a5u a b)))) l:=(rfl)
def b14:List AV->Option (Prop×AV):=t1 (fun s=>s.length<1000000) fun s:List UInt8=>a0W s
@[simp] theorem c7S {l:List AV}:b14 l=(t1 (fun s=>s.length<1000000) fun s:List UInt8=>a0W s) l:=(rfl)
def FH3:CT:=(33,.pu b11)::(36,.pu b12)::(37,.pu b13)::(34,.pu b14)::FH2
theorem b9o:a07 Tryz.prog FH3:=⟨a0o fun e _=>b8x e,
 a1s fun o e _=>b6k o e,
 a1s fun a b _=>b39 a b,
 a0o fun s h=>b10 s h,b9n⟩
@[simp] theorem c4G:a0c FH3 33=some (.pu b11):=(rfl)
@[simp] theorem c4H:a0c FH3 36=some (.pu b12):=(rfl)
@[simp] theorem c4I:a0c FH3 37=some (.pu b13):=(rfl)
@[simp] theorem c4J:a0c FH3 34=some (.pu b14):=(rfl)
@[simp] theorem c7T {n:Nat} (h:(n==33||n==36||n==37||n==34)=false):a0c FH3 n=a0c FH2 n:=by
 simp only [Bool.or_eq_false_iff,beq_eq_false_iff_ne,ne_eq] at h
 simp [FH3,a0c,h]
theorem b4b (a b:Int):PEv Tryz.prog 31 [.c (.raw (.int .i64 a)),.c (.raw (.int .i64 b))] (.c (.raw (.bool (nameB a b)))):=by
 refine a0e mixed b9o Tryz.func31 sl31 d4j (by kernel_rfl) (by simp) (by simp) ?_
 have e:nameB a b=((decide (1<=a)&&decide (a<=8))&&(decide (1<=b)&&decide (b<=268435456))):=by simp [nameB]
 cases c1:decide (1<=a)
 ·simp [s31,e,c1]
 cases c2:decide (a<=8)
 ·simp [s31,e,c1,c2]
 ·simp [s31,e,c1,c2]
def b15:List AV->Option (Prop×AV):=t2 (fun _ _=>True) fun a b:Int=>.c (.raw (.bool (nameB a b)))
@[simp] theorem c7U {l:List AV}:b15 l=(t2 (fun _ _=>True) fun a b:Int=>.c (.raw (.bool (nameB a b)))) l:=(rfl)
def FH4:CT:=(31,.pu b15)::FH3
theorem b9p:a07 Tryz.prog FH4:=⟨a1s fun a b _=>b4b a b,b9o⟩
@[simp] theorem c4K:a0c FH4 31=some (.pu b15):=(rfl)
@[simp] theorem c7V {n:Nat} (h:(n==31)=false):a0c FH4 n=a0c FH3 n:=by
 simp only [Bool.or_eq_false_iff,beq_eq_false_iff_ne,ne_eq] at h
 simp [FH4,a0c,h]
theorem b16 (e:a0s):PEv Tryz.prog 35 [Arg.enc e] (.c (.raw (.bool (a1v e)))):=by
 refine a0e mixed b9p Tryz.func35 sl35 d4n (by kernel_rfl) (by simp) (by simp) ?_
 have h12:decide (e.i<12)=decide (e.i<=11):=by
  by_cases h:e.i<12
  ·simp [h];omega
  ·simp [h];omega
 have he:a1v e=(a2h e||(nameB e.site e.seq&&decide (0<=e.i)&&decide (e.i<=11))):=by rw [a1v,h12,a2h]
 cases c1:a2h e
 rotate_left
 ·simp [s35,he,c1]
 cases c2:nameB e.site e.seq
 ·simp [s35,he,c1,c2]
 ·simp [s35,he,c1,c2]
def b17:List AV->Option (Prop×AV):=t1 (fun _=>True) fun e:a0s=>.c (.raw (.bool (a1v e)))
@[simp] theorem c7W {l:List AV}:b17 l=(t1 (fun _=>True) fun e:a0s=>.c (.raw (.bool (a1v e)))) l:=(rfl)
def FH5:CT:=(35,.pu b17)::FH4
theorem b9q:a07 Tryz.prog FH5:=⟨a0o fun e _=>b16 e,b9p⟩
@[simp] theorem c4L:a0c FH5 35=some (.pu b17):=(rfl)
@[simp] theorem c7X {n:Nat} (h:(n==35)=false):a0c FH5 n=a0c FH4 n:=by
 simp only [Bool.or_eq_false_iff,beq_eq_false_iff_ne,ne_eq] at h
 simp [FH5,a0c,h]
def b8y (o:OpV) (q:Nat) (st:St):Prop:=∃i:Nat,i<=o.gone.length/\q=o.gone.length-i/\st.s 1=.c (.pt (0,1) 0 0)/\st.s 5=.c (.raw (.int .i64 i))/\st.H (0,1)=.arr 46 11 false [a0d .brw o]/\a0v st.H st.T/\
 a1J o (a2W o.gone i) (o.gone.drop i)=a1J o none o.gone
theorem b8z {Q:AEx->St->Prop} {st:St} (o:OpV) (hl:o.gone.length<=200) (k1:st.s 1=.c (.pt (0,1) 0 0)) (k5:st.s 5=.c (.raw (.int .i64 0))) (hH:st.H (0,1)=.arr 46 11 false [a0d .brw o]) (hf:a0v st.H st.T)
  (hn:a1J o none o.gone=true->∀st',Q (.exit 0) st') (hr:a1J o none o.gone=false->∀st',st'.s 2=.c (.raw (.bool false))->Q .ret st') :
  a14 Tryz.prog FH5 (.loop c3l) Q st:=by
 refine a61 (b8y o) o.gone.length ⟨0,by simp [a2W,k1,k5,hH,hf]⟩ ?_
 rintro n st ⟨i,hi,rfl,h1,h5,hH,hf,hp⟩ J hJ
 have hfu:∀k d,st.T<=k->st.H (k,d)=.a0b:=hf
 by_cases hlt:i<o.gone.length
 ·have hlt':(i:Int)<o.gone.length:=by omega
  have hw:IntKind.wrap .i64 ((i:Int)+1)=((i+1:Nat):Int):=by rw [a0f]<;>omega
  rw [a7Q o hlt,a7Y] at hp
  refine a4M (fun st'=>st'.s 1=.c (.pt (0,1) 0 0)/\st'.s 5=.c (.raw (.int .i64 i))/\st'.H (0,1)=.arr 46 11 false [a0d .brw o]/\a0v st'.H st'.T) ?_ ?_
  ·intro R' hR
   simp [h1,h5,hH,a0d,hlt,hlt',hfu]
   exact hR _ ⟨by simp [h1],by simp [h5],by simpa [a0d] using hH,by simp;exact hf.mono (by omega)⟩
  clear h1 h5 hH hf hfu
  rintro st' ⟨h1,h5,hH,hf⟩
  have hfu:∀k d,st'.T<=k->st'.H (k,d)=.a0b:=hf
  cases z:a2h o.gone[i]
  ·rw [z] at hp
   cases he:a1v o.gone[i]
   ·have hg:a1J o none o.gone=false:=by simp [<-hp,he]
    simp [h1,h5,hH,a0d,hlt,hlt',hw,hfu,z,he]
    exact hr hg _ (by simp)
   ·cases hw':ownB o o.gone[i]
    ·by_cases h0:i=0
     ·subst h0
      have hp':a1J o (a2W o.gone 1) (o.gone.drop 1)=a1J o none o.gone:=by rw [<-hp];simp [he,hw',a2W]
      simp [h1,h5,hH,a0d,hlt,hlt',hw,hfu,z,he,hw']
      refine ⟨o.gone.length-1,by omega,hJ _ _ ⟨1,by omega,rfl,by simp [h1],by simp;decide,by simpa [a0d] using hH,?_,hp'⟩⟩
      simp
      repeat' (first|exact hf.mono (by first|omega|(simp<;>omega))|(refine a0v.set' ?_ (by first|omega|(simp<;>omega))))
     ·obtain ⟨j,hj⟩:∃j,j+1=i:=⟨i-1,by omega⟩
      have hjl:j<o.gone.length:=by omega
      have hpe:a2W o.gone i=some o.gone[j]:=by subst hj;simp [a2W,hjl]
      have hs:IntKind.wrap .i64 ((i:Int)-1)=(j:Int):=by rw [a0f]<;>omega
      have hpos:0<i:=by omega
      cases hl':a5u o.gone[j] o.gone[i]
      ·have hg:a1J o none o.gone=false:=by simp [<-hp,he,hpe,hl']
       simp [h1,h5,hH,a0d,hlt,hlt',hw,hfu,z,he,hw',hl',hs,hjl,hpos,h0]
       exact hr hg _ (by simp)
      ·have hp':a1J o (a2W o.gone (i+1)) (o.gone.drop (i+1))=a1J o none o.gone:=by rw [<-hp];simp [he,hw',hpe,hl']
       simp [h1,h5,hH,a0d,hlt,hlt',hw,hfu,z,he,hw',hl',hs,hjl,hpos,h0]
       refine ⟨o.gone.length-(i+1),by omega,hJ _ _ ⟨i+1,by omega,rfl,by simp [h1],by simp,by simpa [a0d] using hH,?_,hp'⟩⟩
       simp
       repeat' (first|exact hf.mono (by first|omega|(simp<;>omega))|(refine a0v.set' ?_ (by first|omega|(simp<;>omega))))
    ·have hg:a1J o none o.gone=false:=by simp [<-hp,he,hw']
     simp [h1,h5,hH,a0d,hlt,hlt',hw,hfu,z,he,hw']
     exact hr hg _ (by simp)
  ·rw [z] at hp
   have hg:a1J o none o.gone=false:=by simp [<-hp]
   simp [h1,h5,hH,a0d,hlt,hlt',hw,hfu,z]
   exact hr hg _ (by simp)
 ·have hlt':¬(i:Int)<o.gone.length:=by omega
  have hi2:i=o.gone.length:=by omega
  have hg:a1J o none o.gone=true:=by
   subst hi2
   simp at hp
   rw [<-hp];cases a2W o.gone o.gone.length<;>rfl
  refine d0w 0 (fun _=>True) ?_ fun st' _=>hn hg st'
  intro R' hR
  simp [h1,h5,hH,a0d,hlt,hlt']
  exact hR _ trivial
open Go Go.Proofs
def c1f (o:OpV) (st:St):Prop:=st.s 1=.c (.pt (0,1) 0 0)/\st.H (0,1)=.arr 46 11 false [a0d .brw o]/\a0v st.H st.T
theorem b6o {s:List UInt8} {X:List Rn} (hX:runesL s=some X):decide (X=[])=decide (s=[]):=by
 cases s with
 |nil=>cases hX;rfl
 |cons b s=>
  cases X with
  |nil=>
   rw [runesL] at hX
   simp only [List.length_cons,a3a] at hX
   rw [if_pos (by simp)] at hX
   split at hX
   ·simp at hX
   ·cases hX
  |cons x X=>simp
theorem b4c (o:OpV):a01 o=(nameB o.of_ o.num&&(!decide (o.of_=o.site)||!decide (o.num=o.seq))&&decide (0<=o.gen)&&decide (o.gen<=268435456)&&a2h o.after&&decide (o.text=[])&&decide (o.gone=[])):=by
 have e1:(!decide (o.gen<0))=decide (0<=o.gen):=by by_cases h:o.gen<0<;>simp [h]<;>omega
 have e2:(!decide (268435456<o.gen))=decide (o.gen<=268435456):=by by_cases h:268435456<o.gen<;>simp [h]<;>omega
 rw [a01,e1,e2,a2h,Bool.not_and]
theorem b6p {o:OpV} (c1:nameB o.site o.seq=true) (ck:¬o.kind=2):a0M o=(decide (o.kind=1)&&decide (o.of_=0)&&decide (o.num=0)&&decide (o.gen=0)&&!decide (200<o.gone.length)&&!(decide (o.text=[])&&decide (o.gone=[]))&&
  a5c o.text&&decide (a1H o.text<=12)&&a1v o.after&&!(decide (o.text=[])&&!a2h o.after)&&!ownB o o.after&&a1J o none o.gone):=by
 have e1:decide (o.gone.length<=200)=!decide (200<o.gone.length):=by by_cases h:o.gone.length<=200<;>simp [h]<;>omega
 have e2:decide (o.gone.length=0)=decide (o.gone=[]):=by cases o.gone<;>simp
 simp only [a0M,c1,ck,Bool.true_and,decide_false,Bool.false_and]
 by_cases hk:o.kind=1
 ·simp only [hk,if_true,a2E,a3e,e1,e2,a7Y,decide_true,Bool.true_and]
  cases a1v o.after<;>cases ownB o o.after<;>cases a5c o.text<;>cases a1J o none o.gone<;>cases decide (o.of_=0)<;>cases decide (o.num=0)<;>cases decide (o.gen=0)<;>cases decide (a1H o.text<=12)<;>cases decide (200<o.gone.length)<;>simp [Bool.and_comm]
 ·simp [hk]
theorem b0i (o:OpV) (h1:o.text.length<1000000) (h2:o.gone.length<4611686018427387904):PEv Tryz.prog 14 [Arg.enc o] (.c (.raw (.bool (a0M o)))):=by
 refine a0e mixed b9q Tryz.func14 d3R d3S (by kernel_rfl) (by simp) (by simp [a0d]) ?_
 have hfin:∀st',st'.s 2=.c (.raw (.bool (a0M o)))->b8U Tryz.prog Tryz.f14 (.c (.raw (.bool (a0M o)))) .ret st':=fun st' h=>by simp [h]
 have hno:a0M o=false->∀st',st'.s 2=.c (.raw (.bool false))->b8U Tryz.prog Tryz.f14 (.c (.raw (.bool (a0M o)))) .ret st':=fun hm st' h=>hfin st' (by rw [h,hm])
 refine a4M (c1f o) ?_ ?_
 ·intro R' hR
  simp [a0d]
  exact hR _ ⟨by simp,by simp [a0d],by simp;(repeat' (first|exact a1r.mono (Nat.zero_le _)|(refine a0v.set' ?_ (by simp))))⟩
 rintro st ⟨k1,hH,hf⟩
 have hfu:∀k d,st.T<=k->st.H (k,d)=.a0b:=hf
 cases c1:nameB o.site o.seq
 ·refine a5y (fun st'=>st'.s 2=.c (.raw (.bool false))) ?_ (hno (by simp [a0M,c1]))
  intro R' hR
  simp [k1,hH,a0d,c1]
  exact hR _ (by simp)
 refine a4M (c1f o) ?_ ?_
 ·intro R' hR
  simp [k1,hH,a0d,c1]
  exact hR _ ⟨by simp [k1],by simpa [a0d] using hH,by simp;exact hf.mono (by omega)⟩
 clear k1 hH hf hfu
 rintro st ⟨k1,hH,hf⟩
 have hfu:∀k d,st.T<=k->st.H (k,d)=.a0b:=hf
 cases ck:decide (o.kind=2)
 rotate_left
 ·have ck':o.kind=2:=of_decide_eq_true ck
  have hm:a0M o=a01 o:=by simp [a0M,c1,ck']
  refine a5y (fun st'=>st'.s 2=.c (.raw (.bool (a01 o)))) ?_ fun st' h=>hfin st' (by rw [h,hm])
  intro R' hR
  have g1:=b4c o
  cases c2:nameB o.of_ o.num
  ·simp [k1,hH,a0d,ck,c2]
   exact hR _ (by simp [g1,c2])
  cases c3:(!decide (o.of_=o.site)||!decide (o.num=o.seq))
  ·have c3':=Bool.or_eq_false_iff.1 c3
   have c4:decide (o.of_=o.site)=true:=by simpa using c3'.1
   have c5:decide (o.num=o.seq)=true:=by simpa using c3'.2
   simp [k1,hH,a0d,ck,c2,c4,c5]
   exact hR _ (by simp [g1,c2,c4,c5])
  cases c6:decide (0<=o.gen)
  ·cases c4:decide (o.of_=o.site)
   ·simp [k1,hH,a0d,ck,c2,c4,c6]
    exact hR _ (by simp [g1,c6])
   ·have c5:decide (o.num=o.seq)=false:=by simpa [c4] using c3
    simp [k1,hH,a0d,ck,c2,c4,c5,c6]
    exact hR _ (by simp [g1,c6])
  cases c4:decide (o.of_=o.site)
  ·cases c7:decide (o.gen<=268435456)
   ·simp [k1,hH,a0d,ck,c2,c4,c6,c7]
    exact hR _ (by simp [g1,c7])
   cases c8:a2h o.after
   ·simp [k1,hH,a0d,ck,c2,c4,c6,c7,c8]
    exact hR _ (by simp [g1,c8])
   cases c9:decide (o.text=[])
   ·simp [k1,hH,a0d,ck,c2,c4,c6,c7,c8,c9]
    exact hR _ (by simp [g1,c9])
   ·simp [k1,hH,a0d,ck,c2,c4,c6,c7,c8,c9]
    exact hR _ (by simp [g1,c2,c4,c6,c7,c8,c9])
  ·have c5:decide (o.num=o.seq)=false:=by simpa [c4] using c3
   cases c7:decide (o.gen<=268435456)
   ·simp [k1,hH,a0d,ck,c2,c4,c5,c6,c7]
    exact hR _ (by simp [g1,c7])
   cases c8:a2h o.after
   ·simp [k1,hH,a0d,ck,c2,c4,c5,c6,c7,c8]
    exact hR _ (by simp [g1,c8])
   cases c9:decide (o.text=[])
   ·simp [k1,hH,a0d,ck,c2,c4,c5,c6,c7,c8,c9]
    exact hR _ (by simp [g1,c9])
   ·simp [k1,hH,a0d,ck,c2,c4,c5,c6,c7,c8,c9]
    exact hR _ (by simp [g1,c2,c4,c5,c6,c7,c8,c9])
 have ck':¬o.kind=2:=of_decide_eq_false ck
 have hm:=b6p c1 ck'
 refine a4M (c1f o) ?_ ?_
 ·intro R' hR
  simp [k1,hH,a0d,ck]
  exact hR _ ⟨by simp [k1],by simpa [a0d] using hH,by simp;exact hf.mono (by omega)⟩
 clear k1 hH hf hfu
 rintro st ⟨k1,hH,hf⟩
 have hfu:∀k d,st.T<=k->st.H (k,d)=.a0b:=hf
 cases d2:decide (o.kind=1)
 ·refine a5y (fun st'=>st'.s 2=.c (.raw (.bool false))) ?_ (hno (by simp [hm,d2]))
  intro R' hR
  simp [k1,hH,a0d,d2]
  exact hR _ (by simp)
 cases d3:decide (o.of_=0)
 ·refine a5y (fun st'=>st'.s 2=.c (.raw (.bool false))) ?_ (hno (by simp [hm,d3]))
  intro R' hR
  simp [k1,hH,a0d,d2,d3]
  exact hR _ (by simp)
 cases d4:decide (o.num=0)
 ·refine a5y (fun st'=>st'.s 2=.c (.raw (.bool false))) ?_ (hno (by simp [hm,d4]))
  intro R' hR
  simp [k1,hH,a0d,d2,d3,d4]
  exact hR _ (by simp)
 cases d5:decide (o.gen=0)
 ·refine a5y (fun st'=>st'.s 2=.c (.raw (.bool false))) ?_ (hno (by simp [hm,d5]))
  intro R' hR
  simp [k1,hH,a0d,d2,d3,d4,d5]
  exact hR _ (by simp)
 cases d6:decide (200<o.gone.length)
 rotate_left
 ·have d6':(200:Int)<o.gone.length:=by have:=of_decide_eq_true d6;omega
  refine a5y (fun st'=>st'.s 2=.c (.raw (.bool false))) ?_ (hno (by simp [hm,d6]))
  intro R' hR
  simp [k1,hH,a0d,d2,d3,d4,d5,d6']
  exact hR _ (by simp)
 have d6':¬(200:Int)<o.gone.length:=by have:=of_decide_eq_false d6;omega
 have hg200:o.gone.length<=200:=by have:=of_decide_eq_false d6;omega
 cases d7:(decide (o.text=[])&&decide (o.gone=[]))
 rotate_left
 ·obtain ⟨d8,d9⟩:=Bool.and_eq_true_iff.1 d7
  refine a5y (fun st'=>st'.s 2=.c (.raw (.bool false))) ?_ (hno (by simp [hm,d8,d9]))
  intro R' hR
  simp [k1,hH,a0d,d2,d3,d4,d5,d6',d8,d9]
  exact hR _ (by simp)
 refine a4M (c1f o) ?_ ?_
 ·intro R' hR
  cases d8:decide (o.text=[])
  ·simp [k1,hH,a0d,d2,d3,d4,d5,d6',d8]
   exact hR _ ⟨by simp [k1],by simpa [a0d] using hH,by simp;exact hf.mono (by omega)⟩
  ·have d9:decide (o.gone=[])=false:=by simpa [d8] using d7
   simp [k1,hH,a0d,d2,d3,d4,d5,d6',d8,d9]
   exact hR _ ⟨by simp [k1],by simpa [a0d] using hH,by simp;exact hf.mono (by omega)⟩
 clear k1 hH hf hfu
 rintro st ⟨k1,hH,hf⟩
 have hfu:∀k d,st.T<=k->st.H (k,d)=.a0b:=hf
 have htx:=b1X o.text
 cases hx:runesL o.text with
 |none=>
  rw [hx] at htx
  have hav:a0W o.text=.t [(false,[.nw 21 1 []]),(false,[.raw (.bool false)])]:=by rw [a0W,hx]
  obtain ⟨p1,p2,p3⟩:=hf.arr hH
  refine a4M (fun st'=>c1f o st'/\st'.s 4=.c (.raw (.bool false))) ?_ ?_
  ·intro R' hR
   simp [k1,hH,a0d,h1,hav,hfu]
   exact hR _ ⟨⟨by simp [k1],by simpa [a0d,p2] using hH,by simp;repeat' (first|exact hf.mono (by first|omega|(simp<;>omega))|(refine a0v.set' ?_ (by first|omega|(simp<;>omega))))⟩,by simp⟩
  rintro st ⟨⟨k1,hH,hf⟩,k4⟩
  refine a5y (fun st'=>st'.s 2=.c (.raw (.bool false))) ?_ (hno (by simp [hm,htx]))
  intro R' hR
  simp [k1,k4,hH,a0d]
  exact hR _ (by simp)
 |some X=>
  rw [hx] at htx
  have hav:a0W o.text=.t [(false,[.nw 21 1 (a0a X)]),(false,[.raw (.bool true)])]:=by rw [a0W,hx]
  have hn:=b4a hx
  have hX0:=b6o hx
  have hXl:decide (X.length=0)=decide (o.text=[]):=by rw [<-hX0];cases X<;>simp
  obtain ⟨p1,p2,p3⟩:=hf.arr hH
  refine a4M (fun st'=>c1f o st'/\st'.s 4=.c (.raw (.bool true))/\∃g,st'.s 3=.c (.so g 0 X.length)/\st'.H g=.arr 21 1 false (a0a X)) ?_ ?_
  ·intro R' hR
   simp [k1,hH,a0d,h1,hav,hfu]
   exact hR _ ⟨⟨by simp [k1],by simpa [a0d,p2] using hH,by simp;repeat' (first|exact hf.mono (by first|omega|(simp<;>omega))|(refine a0v.set' ?_ (by first|omega|(simp<;>omega))))⟩,by simp,_,by simp;rfl,by simp⟩
  clear k1 hH hf hfu p1 p2 p3
  rintro st ⟨⟨k1,hH,hf⟩,k4,g,k3,hg⟩
  have hfu:∀k d,st.T<=k->st.H (k,d)=.a0b:=hf
  cases d10:decide (a1H o.text<=12)
  ·have b9G:(12:Int)<X.length:=by have:=of_decide_eq_false d10;omega
   refine a5y (fun st'=>st'.s 2=.c (.raw (.bool false))) ?_ (hno (by simp [hm,d10]))
   intro R' hR
   simp [k1,k3,k4,hg,hH,a0d,b9G]
   exact hR _ (by simp)
  have b9G:¬(12:Int)<X.length:=by have:=of_decide_eq_true d10;omega
  cases d11:a1v o.after
  ·refine a5y (fun st'=>st'.s 2=.c (.raw (.bool false))) ?_ (hno (by simp [hm,d11]))
   intro R' hR
   simp [k1,k3,k4,hg,hH,a0d,b9G,d11]
   exact hR _ (by simp)
  cases d12:(decide (o.text=[])&&!a2h o.after)
  rotate_left
  ·obtain ⟨d13,d14⟩:=Bool.and_eq_true_iff.1 d12
   rw [Bool.not_eq_true'] at d14
   have d15:X=[]:=by rw [d13] at hX0;exact of_decide_eq_true hX0
   refine a5y (fun st'=>st'.s 2=.c (.raw (.bool false))) ?_ (hno (by simp [hm,d13,d14]))
   intro R' hR
   subst d15
   simp [k1,k3,k4,hg,hH,a0d,b9G,d11,d14]
   exact hR _ (by simp)
  cases d16:ownB o o.after
  rotate_left
  ·refine a5y (fun st'=>st'.s 2=.c (.raw (.bool false))) ?_ (hno (by simp [hm,d16]))
   intro R' hR
   cases d13:decide (X=[])
   ·simp [k1,k3,k4,hg,hH,a0d,b9G,d11,d13,d16]
    exact hR _ (by simp)
   ·have d14:a2h o.after=true:=by rw [hX0] at d13;simpa [d13] using d12
    simp [k1,k3,k4,hg,hH,a0d,b9G,d11,d13,d14,d16]
    exact hR _ (by simp)
  refine a4M (c1f o) ?_ ?_
  ·intro R' hR
   cases d13:decide (X=[])
   ·simp [k1,k3,k4,hg,hH,a0d,b9G,d11,d13,d16]
    exact hR _ ⟨by simp [k1],by simpa [a0d] using hH,by simp;exact hf.mono (by omega)⟩
   ·have d14:a2h o.after=true:=by rw [hX0] at d13;simpa [d13] using d12
    simp [k1,k3,k4,hg,hH,a0d,b9G,d11,d13,d14,d16]
    exact hR _ ⟨by simp [k1],by simpa [a0d] using hH,by simp;exact hf.mono (by omega)⟩
  clear k1 k3 k4 hg hH hf hfu
  rintro st ⟨k1,hH,hf⟩
  have hfu:∀k d,st.T<=k->st.H (k,d)=.a0b:=hf
  have hm2:a0M o=a1J o none o.gone:=by
   have d7g:(!decide (o.text=[])||a2h o.after)=true:=by
    have:=congrArg (!·) d12
    simpa using this
   rw [hm,htx,d2,d3,d4,d5,d6,d7,d10,d11,d12,d16]
   simp
  simp
  refine b8z o hg200 (by simp [k1]) (by simp) (by simpa using hH) (by simp;exact hf.mono (by omega)) (fun hg st'=>?_) (fun hg st' h=>?_)
  ·simp [hm2,hg]
  ·simp [h,hm2,hg]
open Go Go.Proofs
def c1g:List AV->Option (Prop×AV):=t1 (fun o=>o.text.length<1000000/\o.gone.length<4611686018427387904) fun o:OpV=>.c (.raw (.bool (a0M o)))
def FH6:CT:=(14,.pu c1g)::FH5
theorem c4M:a07 Tryz.prog FH6:=⟨a0o fun o h=>b0i o h.1 h.2,b9q⟩
def FJ0:CT:=FH6
theorem c4N:a07 Tryz.prog FJ0:=c4M
attribute [simp] FJ0
def FJ1:CT:=FJ0
theorem c4O:a07 Tryz.prog FJ1:=c4N
attribute [simp] FJ1
open Go Go.Proofs
open Go
open Go Go.Proofs
def FJ2:CT:=FJ1
theorem c4P:a07 Tryz.prog FJ2:=c4O
attribute [simp] FJ2
def FJ3:CT:=FJ2
theorem c4Q:a07 Tryz.prog FJ3:=c4P
attribute [simp] FJ3
open Go
theorem b4d {n:Nat} (h:n<=700):(a0g n).length<=2:=a5W 9 2 n (by omega) (by omega)
theorem a7r {t:List UInt8} (h:t.length<=700):(b0c (a02 t)).length<=736:=by
 have h1:=b4d h
 have l1:(a08 (ofN (a0g t.length++t))).length=4:=rfl
 simp only [b0c,a02,if_neg (show ¬700<t.length by omega),List.length_append,List.length_replicate,l1,b1M]
 omega
open Go Go.Proofs
def FJ4:CT:=FJ3
theorem c4R:a07 Tryz.prog FJ4:=c4Q
attribute [simp] FJ4
def FJ5:CT:=FJ4
theorem c4S:a07 Tryz.prog FJ5:=c4R
attribute [simp] FJ5
open Go
theorem b25 {d:a0l} (h:a3s d=true) {n:Int} {s:List UInt8} (hs:s.length=32) (h0:0<=n) (h1:n<d.safe.length) (h2:d.wait.length<400):a3s ⟨d.safe,d.wait++[⟨n,s⟩]⟩=true/\b0a d n s=(⟨d.safe,d.wait++[⟨n,s⟩]⟩,0):=by
 constructor
 ·simp only [a3s,Bool.and_eq_true,decide_eq_true_eq,List.all_append,List.length_append,List.length_cons,List.length_nil] at h ⊢
  obtain ⟨⟨⟨⟨a1,a2⟩,a3⟩,a4⟩,a5⟩:=h
  refine ⟨⟨⟨⟨a1,a2⟩,by omega⟩,a4⟩,a5,?_⟩
  simp [a3Z,hs,a55]
  omega
 ·rw [b0a,if_neg (by simp [h,hs]),if_neg (by omega),if_neg (by omega)]
def wsF (B:List UInt8) (at_:Int) (i k:Nat):List a4h:=(List.range k).map fun j=>⟨at_+((i+j:Nat):Int),a88 B (i+j)⟩
theorem b26 (B:List UInt8) (at_:Int) (i k:Nat):wsF B at_ i (k+1)=⟨at_+(i:Int),a88 B i⟩::wsF B at_ (i+1) k:=by
 simp only [wsF,List.range_succ_eq_map,List.map_cons,List.map_map,Nat.add_zero]
 congr 1
 apply List.map_congr_left
 intro j _
 simp only [Function.comp,Nat.succ_eq_add_one]
 rw [show i+(j+1)=i+1+j by omega]
theorem b27 {B:List UInt8} {i:Nat} (h:32*(i+1)<=B.length):(a88 B i).length=32:=by
 simp only [a88,List.length_take,List.length_drop]
 omega
theorem b6q {B:List UInt8} {at_:Int} (h0:0<=at_):∀(k i:Nat) (d:a0l),a3s d=true->at_+((i+k:Nat):Int)<=d.safe.length->32*(i+k)<=B.length->d.wait.length+k<=400->b20 B at_ k i d=(⟨d.safe,d.wait++wsF B at_ i k⟩,0)/\a3s ⟨d.safe,d.wait++wsF B at_ i k⟩=true
 |0,i,d,hm,h1,h2,h3=>by
  simp [b20,wsF]
  exact hm
 |k+1,i,d,hm,h1,h2,h3=>by
  obtain ⟨m1,m2⟩:=b25 hm (n:=at_+(i:Int)) (s:=a88 B i) (b27 (by omega)) (by omega) (by omega) (by omega)
  have ih:=b6q (B:=B) h0 k (i+1) ⟨d.safe,d.wait++[⟨at_+(i:Int),a88 B i⟩]⟩ m1 (by simp only;omega) (by omega) (by simp;omega)
  rw [b20,m2,if_pos rfl,ih.1,b26]
  simp only [List.append_assoc,List.singleton_append] at ih ⊢
  exact ⟨trivial,ih.2⟩
open Go Go.Proofs
open Go Go.Proofs
def FJ6:CT:=FJ5
theorem c4T:a07 Tryz.prog FJ6:=c4S
attribute [simp] FJ6
open Go Go.Proofs
def c4U {α:Type} [Enc α] (e sz:Nat) (l:List α) (q:Nat) (st:St):Prop:=∃(i:Nat) (c:AC),i<=l.length/\q=l.length-i/\st.s 0=.c (.sl .brw false (a0a l))/\st.s 3=.c c/\st.s 4=.c (.raw (.int .i64 i))/\a0v st.H st.T/\a7i st.H e sz 0 c (l.take i)
theorem b0j (l:List a0s) (hl:l.length<1000000):PEv Tryz.prog 42 [.c (.sl .brw false (a0a l))] (.c (.nw 44 3 (a0a l))):=by
 refine a0e mixed (F:=[]) trivial Tryz.func42 d4v d4w (by kernel_rfl) (by simp) (by simp) ?_
 simp [s42]
 refine a61 (c4U 44 3 l) l.length ⟨0,_,by omega,rfl,by simp,by simp,by simp,by simp;exact a1r.mono (by omega),.inl ⟨rfl,rfl⟩⟩ ?_
 rintro q st ⟨i,c,hi,rfl,k0,k3,k4,hf,hc⟩ J hJ
 have hfu:∀k d,st.T<=k->st.H (k,d)=.a0b:=hf
 by_cases hlt:i<l.length
 ·have hlt':(i:Int)<l.length:=by omega
  have hw:IntKind.wrap .i64 ((i:Int)+1)=((i+1:Nat):Int):=by rw [a0f]<;>omega
  have ht:l.take (i+1)=l.take i++[l[i]]:=(List.take_append_getElem hlt).symm
  have hti:(l.take i).length=i:=by rw [List.length_take];omega
  rcases hc with ⟨rfl,hc0⟩|⟨g,rfl,hg0,hg⟩
  ·simp [b5y,k0,k3,k4,hlt,hlt',hw,hfu]
   refine ⟨l.length-(i+1),by omega,hJ _ _ ⟨i+1,.so (st.T+1,17) 0 1,by omega,rfl,by simp [k0],by simp,by simp,by simp;repeat' (first|exact hf.mono (by first|omega|(simp<;>omega))|(refine a0v.set' ?_ (by first|omega|(simp<;>omega)))),?_⟩⟩
   rw [ht,hc0]
   exact a7i.so rfl (Nat.zero_le _) (by simp [a0a])
  ·obtain ⟨f1,f2,f3⟩:=hf.arr hg
   rw [hti] at k3
   simp [b5y,k0,k3,k4,hlt,hlt',hw,hfu,hg,f1,f2,hti]
   refine ⟨⟨by omega,by omega⟩,l.length-(i+1),by omega,hJ _ _ ⟨i+1,.so (st.T+1,17) 0 (i+1),by omega,rfl,by simp [k0],by simp,by simp,by simp;repeat' (first|exact hf.mono (by first|omega|(simp<;>omega))|(refine a0v.set' ?_ (by first|omega|(simp<;>omega)))),?_⟩⟩
   rw [ht]
   generalize List.take i l=A at hg hti ⊢
   exact a7i.so (by simp [hti]) (Nat.zero_le _) (by simp [a0a])
 ·have hlt':¬(i:Int)<l.length:=by omega
  have hi2:i=l.length:=by omega
  rw [hi2,List.take_length] at hc
  rcases hc with ⟨rfl,rfl⟩|⟨g,rfl,hg0,hg⟩
  ·simp [b5y,k0,k3,k4,hlt,hlt']
  ·simp [b5y,k0,k3,k4,hlt,hlt',hg]
def b18:List AV->Option (Prop×AV):=t1 (fun l=>l.length<1000000) fun l:List a0s=>.c (.nw 44 3 (a0a l))
@[simp] theorem c7Y {l:List AV}:b18 l=(t1 (fun l=>l.length<1000000) fun l:List a0s=>.c (.nw 44 3 (a0a l))) l:=(rfl)
def FK0:CT:=(42,.pu b18)::FJ6
theorem b9r:a07 Tryz.prog FK0:=⟨a0o fun l h=>b0j l h,c4T⟩
@[simp] theorem c4V:a0c FK0 42=some (.pu b18):=(rfl)
@[simp] theorem c7Z {n:Nat} (h:(n==42)=false):a0c FK0 n=a0c FJ6 n:=by
 simp only [Bool.or_eq_false_iff,beq_eq_false_iff_ne,ne_eq] at h
 simp [FK0,a0c,h]
theorem b6r (o:OpV) (h:o.gone.length<1000000):PEv Tryz.prog 21 [Arg.enc o] (.g (a1Z (.nw 44 3 (a0a o.gone)) o)):=by
 refine a0e mixed b9r Tryz.func21 d4a d4b (by kernel_rfl) (by simp [a1Z]) (by simp [a0d]) ?_
 simp [s21,a0d,a1Z,h]
theorem b4e (o:OpV) (h:o.gone.length<1000000):PEv Tryz.prog 21 [Arg.enc o] (.g (a0d .old o)):=
 (b6r o h).frz .old (by simp)
def b19:List AV->Option (Prop×AV):=t1 (fun o=>o.gone.length<1000000) fun o:OpV=>.g (a0d .old o)
@[simp] theorem c70 {l:List AV}:b19 l=(t1 (fun o=>o.gone.length<1000000) fun o:OpV=>.g (a0d .old o)) l:=(rfl)
def FK1:CT:=(21,.pu b19)::FK0
theorem b9s:a07 Tryz.prog FK1:=⟨a0o fun o h=>b4e o h,b9r⟩
@[simp] theorem c4W:a0c FK1 21=some (.pu b19):=(rfl)
theorem b0k (e:a0i) (h:e.op.gone.length<1000000):PEv Tryz.prog 41 [Arg.enc e] (.g (a0n .old e)):=by
 refine a0e mixed b9s Tryz.func41 d4t d4u (by kernel_rfl) (by simp [a0n,a0d]) (by simp [a0n,a0d]) ?_
 simp [s41,a0n,a0d,h]
def b2a:List AV->Option (Prop×AV):=t1 (fun e=>e.op.gone.length<1000000) fun e:a0i=>.g (a0n .old e)
@[simp] theorem c71 {l:List AV}:b2a l=(t1 (fun e=>e.op.gone.length<1000000) fun e:a0i=>.g (a0n .old e)) l:=(rfl)
def FK2:CT:=(41,.pu b2a)::FK1
theorem b9t:a07 Tryz.prog FK2:=⟨a0o fun e h=>b0k e h,b9s⟩
@[simp] theorem c4X:a0c FK2 41=some (.pu b2a):=(rfl)
@[simp] theorem c72 {n:Nat} (h:(n==41)=false):a0c FK2 n=a0c FK1 n:=by
 simp only [Bool.or_eq_false_iff,beq_eq_false_iff_ne,ne_eq] at h
 simp [FK2,a0c,h]
theorem a7s (l:List a0i) (hl:l.length<1000000) (hg:∀e∈l,e.op.gone.length<1000000):PEv Tryz.prog 20 [.c (.sl .brw false (a0a l))] (.c (.nw 48 13 (a0a l))):=by
 refine a0e mixed b9t Tryz.func20 d3Y d3Z (by kernel_rfl) (by simp) (by simp) ?_
 simp [s20]
 refine a61 (c4U 48 13 l) l.length ⟨0,_,by omega,rfl,by simp,by simp,by simp,by simp;exact a1r.mono (by omega),.inl ⟨rfl,rfl⟩⟩ ?_
 rintro q st ⟨i,c,hi,rfl,k0,k3,k4,hf,hc⟩ J hJ
 have hfu:∀k d,st.T<=k->st.H (k,d)=.a0b:=hf
 by_cases hlt:i<l.length
 ·have hlt':(i:Int)<l.length:=by omega
  have hw:IntKind.wrap .i64 ((i:Int)+1)=((i+1:Nat):Int):=by rw [a0f]<;>omega
  have ht:l.take (i+1)=l.take i++[l[i]]:=(List.take_append_getElem hlt).symm
  have hti:(l.take i).length=i:=by rw [List.length_take];omega
  have hge:l[i].op.gone.length<1000000:=hg _ (List.getElem_mem hlt)
  rcases hc with ⟨rfl,hc0⟩|⟨g,rfl,hg0,hg⟩
  ·simp [b5x,k0,k3,k4,hlt,hlt',hw,hfu,hge,a0n,a0d]
   refine ⟨l.length-(i+1),by omega,hJ _ _ ⟨i+1,.so (st.T+1,18) 0 1,by omega,rfl,by simp [k0],by simp,by simp,by simp;repeat' (first|exact hf.mono (by first|omega|(simp<;>omega))|(refine a0v.set' ?_ (by first|omega|(simp<;>omega)))),?_⟩⟩
   rw [ht,hc0]
   exact a7i.so rfl (Nat.zero_le _) (by simp [a0a,a0n,a0d])
  ·obtain ⟨f1,f2,f3⟩:=hf.arr hg
   rw [hti] at k3
   simp [b5x,k0,k3,k4,hlt,hlt',hw,hfu,hg,f1,f2,hti,hge,a0n,a0d]
   refine ⟨⟨by omega,by omega⟩,l.length-(i+1),by omega,hJ _ _ ⟨i+1,.so (st.T+1,18) 0 (i+1),by omega,rfl,by simp [k0],by simp,by simp,by simp;repeat' (first|exact hf.mono (by first|omega|(simp<;>omega))|(refine a0v.set' ?_ (by first|omega|(simp<;>omega)))),?_⟩⟩
   rw [ht]
   generalize List.take i l=A at hg hti ⊢
   exact a7i.so (by simp [hti]) (Nat.zero_le _) (by simp [a0a,a0n,a0d])
 ·have hlt':¬(i:Int)<l.length:=by omega
  have hi2:i=l.length:=by omega
  rw [hi2,List.take_length] at hc
  rcases hc with ⟨rfl,rfl⟩|⟨g,rfl,hg0,hg⟩
  ·simp [b5x,k0,k3,k4,hlt,hlt']
  ·simp [b5x,k0,k3,k4,hlt,hlt',hg]
def a0P (o:OpV):Int:=2+((o.text.length/4:Nat):Int)+o.gone.length
theorem b2b (o:OpV) (h1:o.text.length<4611686018427387904) (h2:o.gone.length<4611686018427387904):PEv Tryz.prog 16 [Arg.enc o] (.c (.raw (.int .i64 (a0P o)))):=by
 refine a0e mixed (F:=[]) trivial Tryz.func16 d3V ok16 (by kernel_rfl) (by simp) (by simp [a0d]) ?_
 obtain ⟨q,hq⟩:∃q,o.text.length/4=q:=⟨_,rfl⟩
 have w0:(o.text.length:Int).tdiv 4=(q:Int):=by rw [Int.tdiv_eq_ediv_of_nonneg (by omega)];omega
 have w1:IntKind.wrap .i64 (q:Int)=q:=by rw [a0f]<;>omega
 have w2:IntKind.wrap .i64 (2+(q:Int))=2+(q:Int):=by rw [a0f]<;>omega
 have w3:IntKind.wrap .i64 (2+(q:Int)+o.gone.length)=2+(q:Int)+o.gone.length:=by rw [a0f]<;>omega
 simp [s16,a0d,w0,w1,w2,w3,a0P,hq]
open Go Go.Proofs
theorem b4f:a9X a4h Tryz.prog 73 (fun s=>s.text.length<=reachBytes):=by
 intro H enc w F fuel cs x hF h
 obtain ⟨xs,n,_,rfl,hl,hlen,hf⟩:=DataW.trod_struct Tryz.underlying73 h
 rw [show Tryz.prog.cellsOf 73=2 from by kernel_rfl] at hl
 match cs,hl,xs,hlen with
 |[c0,c1],_,[x0,x1],_=>
  have h0:=hf 0 _ rfl
  change DataW.trod enc Tryz.prog w 0 _ true _ 3 (List.take (Tryz.prog.cellsOf 3) [c0,c1])=some x0 at h0
  rw [show Tryz.prog.cellsOf 3=1 from by kernel_rfl] at h0
  have h1:=hf 1 _ rfl
  change DataW.trod enc Tryz.prog w 0 _ true _ 9 (List.take (Tryz.prog.cellsOf 9) [c1])=some x1 at h1
  rw [show Tryz.prog.cellsOf 9=1 from by kernel_rfl] at h1
  obtain ⟨a0,_,o0,r0,s0⟩:=a00 Tryz.underlying3 enc w F n _ _ hF h0
  obtain ⟨a1,_,o1,r1,s1⟩:=a5a Tryz.underlying9 enc w F n _ _ hF h1
  refine ⟨⟨a0,a1⟩,rfl,?_,?_,fun hw=>?_⟩
  ·intro v hv
   simp at hv o0 o1
   rcases hv with rfl|rfl
   ·exact o0
   ·exact o1
  ·intro k c hk
   match k,hk with
   |0,hk=>exact r0 0 c (by simpa using hk)
   |1,hk=>exact r1 0 c (by simpa using hk)
  ·simp only [DataW.weights,Tryz.underlying73,DataW.weightsEach,List.map_cons,List.map_nil,List.append_nil,List.all_append,Bool.and_eq_true] at hw
   exact s1 hw.2
theorem a5z:a5S Int Tryz.prog 24 (fun l=>l.length*Tryz.prog.bytesOf 3<=reachBytes/\∀a∈l,-9223372036854775808<=a/\a<=9223372036854775807):=
 a1R Tryz.underlying24 (a00 Tryz.underlying3) (by kernel_rfl) (by decide)
theorem b4g:a5S (List UInt8) Tryz.prog 27 (fun l=>l.length*Tryz.prog.bytesOf 9<=reachBytes/\∀a∈l,a.length<=reachBytes):=
 a1R Tryz.underlying27 (a5a Tryz.underlying9) (by kernel_rfl) (by decide)
theorem b2c:a5S a4h Tryz.prog 28 (fun l=>l.length*Tryz.prog.bytesOf 73<=reachBytes/\∀a∈l,a.text.length<=reachBytes):=
 a1R Tryz.underlying28 b4f (by kernel_rfl) (by decide)
theorem b4h:a9X b55 Tryz.prog 87 (fun a=>a.s.length<=reachBytes/\a.k.length*8<=reachBytes):=by
 intro H enc w F fuel cs x hF h
 obtain ⟨xs,n,_,rfl,hl,hlen,hf⟩:=DataW.trod_struct Tryz.underlying87 h
 rw [show Tryz.prog.cellsOf 87=4 from by kernel_rfl] at hl
 match cs,hl,xs,hlen with
 |[c0,c1,c2,c3],_,[x0,x1,x2,x3],_=>
  have h0:=hf 0 _ rfl
  change DataW.trod enc Tryz.prog w 0 _ true _ 3 (List.take (Tryz.prog.cellsOf 3) [c0,c1,c2,c3])=some x0 at h0
  rw [show Tryz.prog.cellsOf 3=1 from by kernel_rfl] at h0
  have h1:=hf 1 _ rfl
  change DataW.trod enc Tryz.prog w 0 _ true _ 3 (List.take (Tryz.prog.cellsOf 3) [c1,c2,c3])=some x1 at h1
  rw [show Tryz.prog.cellsOf 3=1 from by kernel_rfl] at h1
  have h2:=hf 2 _ rfl
  change DataW.trod enc Tryz.prog w 0 _ true _ 9 (List.take (Tryz.prog.cellsOf 9) [c2,c3])=some x2 at h2
  rw [show Tryz.prog.cellsOf 9=1 from by kernel_rfl] at h2
  have h3:=hf 3 _ rfl
  change DataW.trod enc Tryz.prog w 0 _ true _ 24 (List.take (Tryz.prog.cellsOf 24) [c3])=some x3 at h3
  rw [show Tryz.prog.cellsOf 24=1 from by kernel_rfl] at h3
  obtain ⟨a0,_,o0,r0,s0⟩:=a00 Tryz.underlying3 enc w F n _ _ hF h0
  obtain ⟨a1,_,o1,r1,s1⟩:=a00 Tryz.underlying3 enc w F n _ _ hF h1
  obtain ⟨a2,_,o2,r2,s2⟩:=a5a Tryz.underlying9 enc w F n _ _ hF h2
  obtain ⟨a3,_,o3,r3,s3⟩:=a5z enc w F n _ _ hF h3
  refine ⟨⟨a0,a1,a2,a3⟩,rfl,?_,?_,fun hw=>?_⟩
  ·intro v hv
   simp at hv o0 o1 o2 o3
   rcases hv with rfl|rfl|rfl|rfl
   ·exact o0
   ·exact o1
   ·exact o2
   ·exact o3
  ·intro k c hk
   match k,hk with
   |0,hk=>exact r0 0 c (by simpa using hk)
   |1,hk=>exact r1 0 c (by simpa using hk)
   |2,hk=>exact r2 0 c (by simpa using hk)
   |3,hk=>
    simp at hk
    subst hk
    exact r3
  ·simp only [DataW.weights,Tryz.underlying87,DataW.weightsEach,List.map_cons,List.map_nil,List.append_nil,List.all_append,Bool.and_eq_true] at hw
   refine ⟨s2 hw.2.2.1,?_⟩
   have:=(s3 hw.2.2.2).1
   rwa [show Tryz.prog.bytesOf 3=8 from by kernel_rfl] at this
theorem b4i:a5S b55 Tryz.prog 31 (fun l=>l.length*Tryz.prog.bytesOf 87<=reachBytes/\∀a∈l,a.s.length<=reachBytes/\a.k.length*8<=reachBytes):=
 a1R Tryz.underlying31 b4h (by kernel_rfl) (by decide)
structure a1K where
 d:a0l
 n:Int
 l:List b55
def a5A (p:a1K):AV:=.g [.sl .brw false (a0a p.d.safe),.sl .brw false (a0a p.d.wait),.raw (.int .i64 p.n),.sl .brw false (a0a p.l)]
structure a5B (p:a1K):Prop where
 safe:p.d.safe.length<281474976710656
 wait:p.d.wait.length<281474976710656
 c1t:∀s∈p.d.safe,s.length<281474976710656
 c1u:∀s∈p.d.wait,s.text.length<281474976710656
 acts:p.l.length<2513169434844
 d6n:∀a∈p.l,a.s.length<281474976710656/\a.k.length<281474976710656
theorem a0C.brw {w:World} {F:Tag->Nat->Prop} {H:Heap} {ρ:Lies} {cl:Bool} {xs:List (List AC)} {v:Value} (h:a0C w F H ρ (.sl .old cl xs) v) (hF:∀b,F .old b->F .brw b):a0C w F H ρ (.sl .brw cl xs) v:=by
 cases h with
 |a0H _ _ _ h=>exact .a0H _ _ _ h
 |sl _ _ _ b o cap sz vs hb hf hcap hcl hr hcell hone hrel=>exact .sl _ _ _ b o cap sz vs hb (hF b hf) hcap hcl hr hcell hone hrel
theorem b0l {H:Type} (enc:TypeId×Value->H) (w:World) (F:Tag->Nat->Prop) (fuel:Nat) (cs:List Value) (x:DataW H×List MemPlace) (hF:∀b,b<w.heap.size->F .old b) (hF2:∀b,F .old b->F .brw b)
  (h:DataW.trod enc Tryz.prog w 0 (fun _=>true) true fuel 33 cs=some x) (hw:(x.1.weights Tryz.prog 33).all (·<=reachBytes)=true) :
  ∃p:a1K,a5B p/\a2f w F a0j a0t (a5A p) (.agg cs.toArray):=by
 obtain ⟨xs,n,_,rfl,hl,hlen,hf⟩:=DataW.trod_struct Tryz.underlying33 h
 rw [show Tryz.prog.cellsOf 33=4 from by kernel_rfl] at hl
 match cs,hl,xs,hlen with
 |[c0,c1,c2,c3],_,[x0,x1,x2],_=>
  have h0:=hf 0 _ rfl
  change DataW.trod enc Tryz.prog w 0 _ true _ 30 (List.take (Tryz.prog.cellsOf 30) [c0,c1,c2,c3])=some x0 at h0
  rw [show Tryz.prog.cellsOf 30=2 from by kernel_rfl] at h0
  have h1:=hf 1 _ rfl
  change DataW.trod enc Tryz.prog w 0 _ true _ 3 (List.take (Tryz.prog.cellsOf 3) [c2,c3])=some x1 at h1
  rw [show Tryz.prog.cellsOf 3=1 from by kernel_rfl] at h1
  have h2:=hf 2 _ rfl
  change DataW.trod enc Tryz.prog w 0 _ true _ 31 (List.take (Tryz.prog.cellsOf 31) [c3])=some x2 at h2
  rw [show Tryz.prog.cellsOf 31=1 from by kernel_rfl] at h2
  obtain ⟨ys,m,_,hx0,hl',hlen',hf'⟩:=DataW.trod_struct Tryz.underlying30 h0
  obtain ⟨a1,_,o1,r1,s1⟩:=a00 Tryz.underlying3 enc w F n _ _ hF h1
  obtain ⟨a2,_,o2,r2,s2⟩:=b4i enc w F n _ _ hF h2
  match ys,hlen' with
  |[y0,y1],_=>
   have g0:=hf' 0 _ rfl
   change DataW.trod enc Tryz.prog w 0 _ true _ 27 (List.take (Tryz.prog.cellsOf 27) [c0,c1])=some y0 at g0
   rw [show Tryz.prog.cellsOf 27=1 from by kernel_rfl] at g0
   have g1:=hf' 1 _ rfl
   change DataW.trod enc Tryz.prog w 0 _ true _ 28 (List.take (Tryz.prog.cellsOf 28) [c1])=some y1 at g1
   rw [show Tryz.prog.cellsOf 28=1 from by kernel_rfl] at g1
   obtain ⟨b0,_,p0,q0,z0⟩:=b4g enc w F m _ _ hF g0
   obtain ⟨b1,_,p1,q1,z1⟩:=b2c enc w F m _ _ hF g1
   simp only [DataW.weights,Tryz.underlying33,Tryz.underlying30,DataW.weightsEach,List.map_cons,List.map_nil,List.append_nil,List.all_append,Bool.and_eq_true,hx0] at hw
   obtain ⟨⟨w0,w1⟩,_,w2⟩:=hw
   obtain ⟨i0,j0⟩:=z0 w0
   obtain ⟨i1,j1⟩:=z1 w1
   obtain ⟨i2,j2⟩:=s2 w2
   rw [show Tryz.prog.bytesOf 9=16 from by kernel_rfl] at i0
   rw [show Tryz.prog.bytesOf 73=24 from by kernel_rfl] at i1
   rw [show Tryz.prog.bytesOf 87=56 from by kernel_rfl] at i2
   have hr:reachBytes=140737488351232:=rfl
   rw [hr] at i0 i1 i2 j0 j1 j2
   refine ⟨⟨⟨b0,b1⟩,a1,a2⟩,⟨by simp;omega,by simp;omega,fun s hs=>by have:=j0 s hs;omega,fun s hs=>by have:=j1 s hs;omega,by simp;omega,fun a ha=>by have:=j2 a ha;omega⟩,?_⟩
   refine .g _ _ rfl fun k c hk=>?_
   match k,hk with
   |0,hk=>simp at hk;subst hk;exact q0.brw hF2
   |1,hk=>simp at hk;subst hk;exact q1.brw hF2
   |2,hk=>simp at hk;subst hk;exact r1 0 _ rfl
   |3,hk=>simp at hk;subst hk;exact r2.brw hF2
open Go Go.Proofs
def b2d (H:Heap) (v:Id) (d:a0l):Prop:=∃j1 j2,H v=.arr 30 2 false [[.so j1 0 d.safe.length,.so j2 0 d.wait.length]]/\H j1=.arr 9 1 false (a0a d.safe)/\H j2=.arr 73 2 false (a0a d.wait)
theorem b2d.ext {S:List Id} {H0 H:Heap} {T0 T:Nat} {v:Id} {d:a0l} (h:b2d H0 v d) (he:a29 S H0 T0 H T) (hS:∀i∈S,H0 i=.a0b):b2d H v d:=by
 obtain ⟨j1,j2,h1,h2,h3⟩:=h
 have no:∀{i e sz f rows},H0 i=OK.arr e sz f rows->i ∉ S:=fun h hi=>by rw [hS _ hi] at h;cases h
 exact ⟨j1,j2,he.arr h1 (no h1),he.arr h2 (no h2),he.arr h3 (no h3)⟩
theorem a29.trans {S S':List Id} {H0 H1 H2:Heap} {T0 T1 T1' T2:Nat} (h:a29 S H0 T0 H1 T1) (h':a29 S' H1 T1' H2 T2) (hT:T1<=T1') (hS:∀i∈S',i∈S):a29 S H0 T0 H2 T2:=by
 refine ⟨fun i hi hn=>?_,h'.2.1,by have:=h.2.2.1;have:=h'.2.2.1;omega,h.2.2.2⟩
 have e1:=h.1 i hi hn
 rw [h'.1 i (by rw [e1];exact hi) (fun q=>hn (hS i q)),e1]
def F6:CT:=F5
attribute [simp] F6
open Go Go.Proofs
def a62:Int->List b55->Int
 |n,[]=>n
 |n,a::r=>if n<1048576 then a62 (n+(a.s.length:Int)/16+a.k.length) r else n
def a5X (p:a1K):Int:=a62 (a1h p.d+p.l.length) p.l
theorem a4O {α:Type} (f:α->Int):∀(l:List α) (n:Int),(∀x∈l,0<=f x)->n<=a5e f n l
 |[],n,_=>Int.le_refl _
 |x::r,n,h=>by
  unfold a5e
  split
  ·have:=a4O f r (n+f x) fun y hy=>h y (by simp [hy])
   have:=h x (by simp)
   omega
  ·exact Int.le_refl _
theorem a4m {α:Type} (f:α->Int) (B:Int):∀(l:List α) (n:Int),(∀x∈l,0<=f x/\f x<=B)->0<=B->n<=1048576+B->a5e f n l<=max n (1048576+B)
 |[],n,_,_,_=>by rw [a5e];omega
 |x::r,n,h,hB,hn=>by
  unfold a5e
  split
  ·have:=a4m f B r (n+f x) (fun y hy=>h y (by simp [hy])) hB (by have:=h x (by simp);omega)
   have:=h x (by simp)
   omega
  ·omega
theorem b28:∀(l:List b55) (n:Int),n<=a62 n l
 |[],n=>Int.le_refl _
 |a::r,n=>by
  unfold a62
  split
  ·have:=b28 r (n+(a.s.length:Int)/16+a.k.length)
   omega
  ·exact Int.le_refl _
theorem a3F (d:a0l) (h1:d.safe.length<281474976710656) (h2:d.wait.length<281474976710656) (h3:∀s∈d.safe,s.length<281474976710656) (h4:∀s∈d.wait,s.text.length<281474976710656) :
  (d.safe.length:Int)/4+d.wait.length<=a1h d/\a1h d<=562949954469888:=by
 have a1:=a4m (fun s:List UInt8=>(s.length:Int)/64) 562949953421312 d.safe ((d.safe.length:Int)/4+d.wait.length) (fun x hx=>by have:=h3 x hx;omega) (by omega) (by omega)
 have a2:=a4O (fun s:List UInt8=>(s.length:Int)/64) d.safe ((d.safe.length:Int)/4+d.wait.length) (fun x hx=>by have:=h3 x hx;simp;omega)
 have b1:=a4m (fun s:a4h=>(s.text.length:Int)/16) 562949953421312 d.wait _ (fun x hx=>by have:=h4 x hx;omega) (by omega) (Int.le_trans a1 (by omega))
 have b2:=a4O (fun s:a4h=>(s.text.length:Int)/16) d.wait (a5e (fun s:List UInt8=>(s.length:Int)/64) ((d.safe.length:Int)/4+d.wait.length) d.safe) (fun x hx=>by have:=h4 x hx;simp;omega)
 unfold a1h
 constructor
 ·exact Int.le_trans a2 b2
 ·omega
theorem b4j (n:Int) (l:List b55) (i:Nat) (h:i<l.length) (hn:n<1048576):a62 n (l.drop i)=a62 (n+(l[i].s.length:Int)/16+l[i].k.length) (l.drop (i+1)):=by
 rw [List.drop_eq_getElem_cons h,a62,if_pos hn]
theorem b4k (n:Int) (l:List b55) (h:¬n<1048576):a62 n l=n:=by
 cases l with
 |nil=>rfl
 |cons x r=>rw [a62,if_neg h]
theorem b8A (p:a1K) (hp:a5B p):PEv Tryz.prog 18 [a5A p] (.c (.raw (.bool (decide (700<a5X p))))):=by
 refine a0e mixed c38 Tryz.func18 d2D d2E (by kernel_rfl) (by simp) (by simp [a5A]) ?_
 obtain ⟨b1,b2⟩:=a3F p.d hp.safe hp.wait hp.c1t hp.c1u
 have d6o:=hp.acts
 simp [s18,a5A]
 refine a0Q (a8X p.d hp.safe hp.wait hp.c1t hp.c1u) (by simp) (by simp) (by simp) ?_
 have e0:IntKind.wrap .i64 (a1h p.d+p.l.length)=a1h p.d+p.l.length:=by rw [a0f]<;>omega
 simp [e0]
 refine a1x (fun n st=>∃(i:Nat) (m:Int),i<=p.l.length/\n=p.l.length-i/\st.s 1=.c (.pt (0,1) 0 0)/\st.H (0,1)=.arr 33 4 false [[.sl .brw false (a0a p.d.safe),.sl .brw false (a0a p.d.wait),.raw (.int .i64 p.n),.sl .brw false (a0a p.l)]]/\
   st.s 3=.c (.raw (.int .i64 m))/\st.s 4=.c (.raw (.int .i64 i))/\0<=m/\m<2251799813685248/\a62 m (p.l.drop i)=a5X p)
   p.l.length ⟨0,a1h p.d+p.l.length,by simp [a5X];omega⟩ ?_
 rintro n st ⟨i,m,hi,rfl,g1,gH,g3,g4,hm0,hm1,hw⟩
 by_cases hlt:i<p.l.length
 ·by_cases hm:m<1048576
  ·have hl:=hp.d6n p.l[i] (List.getElem_mem hlt)
   have e1:IntKind.wrap .i64 (IntKind.wrap .i64 (m+IntKind.wrap .i64 ((p.l[i].s.length:Int)/16))+p.l[i].k.length)=m+(p.l[i].s.length:Int)/16+p.l[i].k.length:=by
    rw [a0f (n:=(p.l[i].s.length:Int)/16) (by omega) (by omega),a0f (n:=m+(p.l[i].s.length:Int)/16) (by omega) (by omega),a0f (by omega) (by omega)]
   have e2:IntKind.wrap .i64 ((i:Int)+1)=((i+1:Nat):Int):=by rw [a0f]<;>omega
   simp [b7F,g1,gH,g3,g4,hlt,hm,e1,e2]
   refine ⟨_,?_,i+1,?_,rfl,rfl,?_,?_,?_⟩
   ·omega
   ·omega
   ·omega
   ·omega
   ·rw [<-hw,b4j _ _ _ hlt hm]
  ·rw [b4k _ _ hm] at hw
   subst hw
   simp [b7F,g1,gH,g3,g4,hlt,hm]
 ·have:p.l.drop i=[]:=List.drop_eq_nil_of_le (by omega)
  rw [this,a62] at hw
  subst hw
  simp [b7F,g1,gH,g3,g4,hlt]
instance c4Y:Arg a1K where
 enc p:=a5A p
 dec|.g [.sl .brw false a,.sl .brw false b,.raw (.int .i64 n),.sl .brw false l]=>(match a3g a,a3g b,a3g l with|some a,some b,some l=>some ⟨⟨a,b⟩,n,l⟩|_,_,_=>none)|_=>none
 a0X {x p} h:=by
  split at h
  ·split at h
   ·rename_i h1 h2 h3
    cases h
    rw [a0I h1,a0I h2,a0I h3]
    rfl
   ·cases h
  ·cases h
@[simp] theorem c15 (p:a1K):Arg.enc p=a5A p:=rfl
@[simp] theorem b2e (a:List (List UInt8)) (b:List a4h) (n:Int) (l:List b55):Arg.dec (.g [.sl .brw false (a0a a),.sl .brw false (a0a b),.raw (.int .i64 n),.sl .brw false (a0a l)])=some (a1K.mk ⟨a,b⟩ n l):=by
 show (match a3g (a0a a),a3g (a0a b),a3g (a0a l) with|some a,some b,some l=>some (a1K.mk ⟨a,b⟩ n l)|_,_,_=>none)=_
 simp
@[simp high] theorem c16 (p:a1K):Arg.dec (.g [.sl .brw false (a0a p.d.safe),.sl .brw false (a0a p.d.wait),.raw (.int .i64 p.n),.sl .brw false (a0a p.l)])=some p:=b2e _ _ _ _
open Go Go.Proofs
theorem a2I (o:OpV) (h1:o.text.length<281474976710656) (h2:o.gone.length<281474976710656):0<=a0P o/\a0P o<=562949953421312:=by
 unfold a0P
 omega
def b2f (l:List OpV):Int:=a5e a0P l.length l
theorem c4Z (l:List OpV) (hl:l.length<281474976710656) (h:∀o∈l,o.text.length<281474976710656/\o.gone.length<281474976710656):(l.length:Int)<=b2f l/\b2f l<=562949954469888:=by
 have a1:=a4O a0P l l.length fun o ho=>(a2I o (h o ho).1 (h o ho).2).1
 have a2:=a4m a0P 562949953421312 l l.length (fun o ho=>a2I o (h o ho).1 (h o ho).2) (by omega) (by omega)
 unfold b2f
 omega
def d0x (l:List OpV) (q:Nat) (st:St):Prop:=∃(i:Nat) (m:Int),i<=l.length/\q=l.length-i/\st.s 0=.c (.sl .brw false (a0a l))/\st.s 3=.c (.raw (.int .i64 m))/\st.s 4=.c (.raw (.int .i64 i))/\0<=m/\m<1125899906842624/\a5e a0P m (l.drop i)=b2f l
def b2g:List AV->Option (Prop×AV):=t1 (fun l=>l.length<1000000/\∀e∈l,e.op.gone.length<1000000) fun l:List a0i=>.c (.nw 48 13 (a0a l))
@[simp] theorem c73 {l:List AV}:b2g l=(t1 (fun l=>l.length<1000000/\∀e∈l,e.op.gone.length<1000000) fun l:List a0i=>.c (.nw 48 13 (a0a l))) l:=(rfl)
def b2h:List AV->Option (Prop×AV):=t1 (fun o=>o.text.length<4611686018427387904/\o.gone.length<4611686018427387904) fun o:OpV=>.c (.raw (.int .i64 (a0P o)))
@[simp] theorem c74 {l:List AV}:b2h l=(t1 (fun o=>o.text.length<4611686018427387904/\o.gone.length<4611686018427387904) fun o:OpV=>.c (.raw (.int .i64 (a0P o)))) l:=(rfl)
def b2i:List AV->Option (Prop×AV):=t1 (fun p:a1K=>a5B p) fun p:a1K=>.c (.raw (.bool (decide (700<a5X p))))
@[simp] theorem c75 {l:List AV}:b2i l=(t1 (fun p:a1K=>a5B p) fun p:a1K=>.c (.raw (.bool (decide (700<a5X p))))) l:=(rfl)
def FK3:CT:=(20,.pu b2g)::(16,.pu b2h)::(18,.pu b2i)::FK2
theorem b9u:a07 Tryz.prog FK3:=⟨a0o fun l h=>a7s l h.1 h.2,
 a0o fun o h=>b2b o h.1 h.2,
 a0o fun p h=>b8A p h,b9t⟩
@[simp] theorem c40:a0c FK3 20=some (.pu b2g):=(rfl)
@[simp] theorem c41:a0c FK3 16=some (.pu b2h):=(rfl)
@[simp] theorem c42:a0c FK3 18=some (.pu b2i):=(rfl)
@[simp] theorem c76 {n:Nat} (h:(n==20||n==16||n==18)=false):a0c FK3 n=a0c FK2 n:=by
 simp only [Bool.or_eq_false_iff,beq_eq_false_iff_ne,ne_eq] at h
 simp [FK3,a0c,h]
theorem b0m (l:List OpV) (hl:l.length<281474976710656) (h:∀o∈l,o.text.length<281474976710656/\o.gone.length<281474976710656):PEv Tryz.prog 38 [.c (.sl .brw false (a0a l))] (.c (.raw (.int .i64 (b2f l)))):=by
 refine a0e mixed b9u Tryz.func38 d4r d4s (by kernel_rfl) (by simp) (by simp) ?_
 simp [s38]
 refine a61 (d0x l) l.length ⟨0,l.length,by omega,rfl,by simp,by simp,by simp,by omega,by omega,by simp [b2f]⟩ ?_
 rintro q st ⟨i,m,hi,rfl,k0,k3,k4,hm0,hm1,hw⟩ J hJ
 by_cases hlt:i<l.length
 ·have hlt':(i:Int)<l.length:=by omega
  by_cases hm:m<1048576
  ·obtain ⟨t1,t2⟩:=h l[i] (List.getElem_mem hlt)
   obtain ⟨w1,w2⟩:=a2I l[i] t1 t2
   have t3:l[i].text.length<4611686018427387904:=by omega
   have t4:l[i].gone.length<4611686018427387904:=by omega
   have e1:IntKind.wrap .i64 (m+a0P l[i])=m+a0P l[i]:=by rw [a0f]<;>omega
   have e2:IntKind.wrap .i64 ((i:Int)+1)=((i+1:Nat):Int):=by rw [a0f]<;>omega
   simp [b78,k0,k3,k4,hlt,hlt',hm,e1,e2,t3,t4,a0d]
   exact ⟨l.length-(i+1),by omega,hJ _ _ ⟨i+1,m+a0P l[i],by omega,rfl,by simp [k0],by simp,by simp,by omega,by omega,by rw [<-hw,a5f _ _ _ _ hlt hm]⟩⟩
  ·rw [a5g _ _ _ hm] at hw
   subst hw
   simp [b78,k0,k3,k4,hlt,hlt',hm]
 ·have hlt':¬(i:Int)<l.length:=by omega
  have:l.drop i=[]:=List.drop_eq_nil_of_le (by omega)
  rw [this,a5e] at hw
  subst hw
  simp [b78,k0,k3,k4,hlt,hlt']
structure b6s where
 ops:List OpV
 elems:List a0s
 nums:List Int
structure b6t (p:b6s):Prop where
 ops:p.ops.length<281474976710656
 opS:∀o∈p.ops,o.text.length<281474976710656/\o.gone.length<281474976710656
 elems:p.elems.length<281474976710656
 nums:p.nums.length<281474976710656
instance d0y:Arg b6s where
 enc p:=.g [.sl .brw false (a0a p.ops),.sl .brw false (a0a p.elems),.sl .brw false (a0a p.nums)]
 dec|.g [.sl .brw false a,.sl .brw false b,.sl .brw false l]=>(match a3g a,a3g b,a3g l with|some a,some b,some l=>some ⟨a,b,l⟩|_,_,_=>none)|_=>none
 a0X {x p} h:=by
  split at h
  ·split at h
   ·rename_i h1 h2 h3
    cases h
    rw [a0I h1,a0I h2,a0I h3]
   ·cases h
  ·cases h
@[simp] theorem c77 (p:b6s):Arg.enc p=.g [.sl .brw false (a0a p.ops),.sl .brw false (a0a p.elems),.sl .brw false (a0a p.nums)]:=rfl
@[simp] theorem c78 (a:List OpV) (b:List a0s) (l:List Int):Arg.dec (.g [.sl .brw false (a0a a),.sl .brw false (a0a b),.sl .brw false (a0a l)])=some (b6s.mk a b l):=by
 show (match a3g (a0a a),a3g (a0a b),a3g (a0a l) with|some a,some b,some l=>some (b6s.mk a b l)|_,_,_=>none)=_
 simp
def a5Y (p:b6s):Int:=b2f p.ops+p.elems.length+p.nums.length
def b2j:List AV->Option (Prop×AV):=t1 (fun l=>l.length<281474976710656/\∀o∈l,o.text.length<281474976710656/\o.gone.length<281474976710656) fun l:List OpV=>.c (.raw (.int .i64 (b2f l)))
@[simp] theorem c79 {l:List AV}:b2j l=(t1 (fun l=>l.length<281474976710656/\∀o∈l,o.text.length<281474976710656/\o.gone.length<281474976710656) fun l:List OpV=>.c (.raw (.int .i64 (b2f l)))) l:=(rfl)
def FK4:CT:=(38,.pu b2j)::FK3
theorem b9v:a07 Tryz.prog FK4:=⟨a0o fun l h=>b0m l h.1 h.2,b9u⟩
@[simp] theorem c43:a0c FK4 38=some (.pu b2j):=(rfl)
@[simp] theorem c8a {n:Nat} (h:(n==38)=false):a0c FK4 n=a0c FK3 n:=by
 simp only [Bool.or_eq_false_iff,beq_eq_false_iff_ne,ne_eq] at h
 simp [FK4,a0c,h]
theorem b6u (p:b6s) (hp:b6t p):PEv Tryz.prog 17 [Arg.enc p] (.c (.raw (.bool (decide (900<a5Y p))))):=by
 refine a0e mixed b9v Tryz.func17 d3W d3X (by kernel_rfl) (by simp) (by simp) ?_
 obtain ⟨h1,h2,h3,h4⟩:=hp
 obtain ⟨b1,b2⟩:=c4Z p.ops h1 h2
 have h2':∀o∈p.ops,o.text.length<281474976710656/\o.gone.length<281474976710656:=h2
 have e1:IntKind.wrap .i64 (b2f p.ops+p.elems.length)=b2f p.ops+p.elems.length:=by rw [a0f]<;>omega
 have e2:IntKind.wrap .i64 (b2f p.ops+p.elems.length+p.nums.length)=b2f p.ops+p.elems.length+p.nums.length:=by rw [a0f]<;>omega
 simp only [a5Y]
 simp [s17,h1,e1,e2]
 exact ⟨h2',rfl⟩
end Go.AE
