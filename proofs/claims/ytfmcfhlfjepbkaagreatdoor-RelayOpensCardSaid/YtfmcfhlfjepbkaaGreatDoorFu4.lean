/- The abstract machine: a call that turns objects of the caller's, by its contract on small heaps. -/
import Derived.Test.YtfmcfhlfjepbkaaGreatDoorFu3
import Derived.ChangeArms
import Derived.ChangeSlices
import Derived.SizedLaws
set_option linter.unusedVariables false
set_option linter.unusedSimpArgs false
set_option maxHeartbeats 2000000
namespace Go.AE
open Go
variable {P:Program} {F:CT} {st:St}
theorem a1E {x:SC} {Q:AEx->St->Prop} (I:Nat->St->Prop) (n:Nat) (h0:I n st) (h:∀n st',I n st'->a2S P F x (a4C (fun f3P=>∃m,m<n/\I m f3P) Q) st'):a2S P F (.loop x) Q st:=
 ⟨{p:Nat×St // I p.1 p.2},fun i=>i.1.2,fun i=>i.1.1,⟨(n,st),h0⟩,.refl _,fun i=>a2F (fun e st' q=>by
  cases e with
  |normal=>obtain ⟨m,g1,g2⟩:=q;exact ⟨⟨(m,st'),g2⟩,g1,.refl _⟩
  |_=>exact q) (a1p (h i.1.1 i.1.2 i.2))⟩
class Enc (α:Type) where
 w:Nat
 row:α->List AC
 dec:List AC->Option α
 a36:∀a,dec (row a)=some a
 a3O:∀{r:List AC} {a:α},dec r=some a->r=row a
 len:∀a,(row a).length=w
 old:∀a,∀c∈row a,a6E c
 ret:∀a,∀c∈row a,a1Y c
section
variable {α:Type} [Enc α]
def a0a (l:List α):List (List AC):=l.map Enc.row
def a4A:List (List AC)->Option (List α)
 |[]=>some []
 |r::rs=>match Enc.dec r,a4A rs with
  |some a,some l=>some (a::l)
  |_,_=>none
@[simp] theorem c8N (l:List α):(a0a l).length=l.length:=by simp [a0a]
@[simp] theorem d6l:a0a ([]:List α)=[]:=(rfl)
@[simp] theorem a7q:∀l:List α,a4A (a0a l)=some l
 |[]=>rfl
 |s::l=>by
  have:=a7q l
  unfold a0a at this
  simp [a0a,a4A,this,Enc.a36]
theorem a0O:∀{r:List (List AC)} {l:List α},a4A r=some l->r=a0a l
 |[],l,h=>by simp [a4A] at h;subst h;rfl
 |r::rs,l,h=>by
  unfold a4A at h
  split at h
  ·rename_i a l' h1 h2
   cases h
   rw [a0O h2,Enc.a3O h1];rfl
  ·cases h
@[simp] theorem d2z {l:List α} {i:Nat} (h:i<(a0a l).length):(a0a l)[i]=Enc.row (l[i]'(by simpa using h)):=by simp [a0a]
@[simp] theorem b1g {l:List α} {i:Nat}:(a0a l)[i]?=(l[i]?).map Enc.row:=by simp [a0a]
@[simp] theorem d6m {l:List α}:(∀r∈a0a l,∀c∈r,a6E c)↔True:=by simp only [a0a,List.mem_map,iff_true];rintro r ⟨a,_,rfl⟩;exact Enc.old a
@[simp] theorem c3j {l:List α}:(∀r∈a0a l,∀c∈r,a1Y c)↔True:=by simp only [a0a,List.mem_map,iff_true];rintro r ⟨a,_,rfl⟩;exact Enc.ret a
@[simp] theorem d6n {l:List α} {n:Nat} (h:n=Enc.w α):(∀r∈a0a l,r.length=n)↔True:=by
 subst h
 simp only [a0a,List.mem_map,iff_true]
 rintro r ⟨a,_,rfl⟩
 exact Enc.len a
theorem a1l (l m:List α):a0a (l++m)=a0a l++a0a m:=by simp [a0a]
theorem a4h (l:List α) (a:α):a0a l++[Enc.row a]=a0a (l++[a]):=by simp [a0a]
theorem c3k (l:List α) (i:Nat) (a:α):(a0a l).set i (Enc.row a)=a0a (l.set i a):=by simp [a0a,List.map_set]
theorem a8c (l:List α) (i:Nat):(a0a l).take i=a0a (l.take i):=by simp [a0a,List.map_take]
@[simp] theorem d6o {l m:List α}:a0a l=a0a m↔l=m:=
 ⟨fun h=>by have:=congrArg (a4A (α:=α)) h;simpa using this,fun h=>by rw [h]⟩
@[simp] theorem c65 {l:List α}:a0a l=[]↔l=[]:=by simp [a0a]
end
instance encS:Enc (List UInt8) where
 w:=1
 row s:=[.str s]
 dec|[.str s]=>some s|_=>none
 a36 _:=rfl
 a3O {r a} h:=by split at h<;>simp_all
 len _:=rfl
 old a c hc:=by simp at hc;subst hc;exact .str _
 ret a c hc:=by simp at hc;subst hc;exact .str _
instance encI:Enc Int where
 w:=1
 row n:=[.raw (.int .i64 n)]
 dec|[.raw (.int .i64 n)]=>some n|_=>none
 a36 _:=rfl
 a3O {r a} h:=by split at h<;>simp_all
 len _:=rfl
 old a c hc:=by simp at hc;subst hc;exact .raw _
 ret a c hc:=by simp at hc;subst hc;exact .raw _
@[simp] theorem f7s (s:List UInt8):Enc.row s=[AC.str s]:=(rfl)
@[simp] theorem f7t (n:Int):Enc.row n=[AC.raw (.int .i64 n)]:=(rfl)
@[simp] theorem w_S:Enc.w (List UInt8)=1:=(rfl)
@[simp] theorem w_I:Enc.w Int=1:=(rfl)
theorem a5W {α:Type} {a b:List α} {i:Nat} (h:a.take i=b.take i) (ha:i<a.length) (hb:i<b.length) (he:a[i]=b[i]):a.take (i+1)=b.take (i+1):=by
 rw [List.take_add_one,List.take_add_one,h];simp [ha,hb,he]
theorem a0d {n:Int} (h1:-9223372036854775808<=n) (h2:n<=9223372036854775807):IntKind.wrap .i64 n=n:=by
 have:IntKind.wrap .i64 n=if n%18446744073709551616≥9223372036854775808 then n%18446744073709551616-18446744073709551616 else n%18446744073709551616:=by
  simp [IntKind.wrap,IntKind.bits,IntKind.signed]
 rw [this]
 split<;>omega
attribute [simp] Int.natCast_inj Int.ofNat_inj
def e7K (e:TypeId) (te:TyI) (teq same:Prop) (H:Heap) (id:Id) (n:Nat) (ys:List (List AC)) (o:OK):Option (Prop×(Heap×Nat×Nat×List (List AC))):=
 match o with
 |.arr e' sz false xs=>some (teq/\e'=e/\sz=te.sz/\te.ok=true/\(∀r∈ys,r.length=sz)/\0<sz/\n=(a2C n xs).length/\¬same/\
   (a2C n xs).length+ys.length<=9223372036854775807/\((a2C n xs).length+ys.length)*te.bytes<=140737488355328,(hset H id .dead,e',sz,a2C n xs++ys))
 |_=>none
def d6p (e:TypeId) (te:TyI) (teq:Prop) (H:Heap) (x y:AV) (ys:Option (List (List AC))):Option (Prop×(Heap×Nat×Nat×List (List AC))):=
 match x,ys with
 |.c (.raw (.slice none 0 0)),some ys=>some (teq/\te.ok=true/\(∀r∈ys,r.length=te.sz)/\0<te.sz/\ys.length<=9223372036854775807/\ys.length*te.bytes<=140737488355328,(H,e,te.sz,ys))
 |.c (.sl _ true xs),some ys=>some (teq/\te.ok=true/\(∀r∈xs,r.length=te.sz)/\(∀r∈ys,r.length=te.sz)/\0<te.sz/\(0<ys.length\/xs=[])/\
    xs.length+ys.length<=9223372036854775807/\(xs.length+ys.length)*te.bytes<=140737488355328,(H,e,te.sz,xs++ys))
 |.c (.so id 0 n),some ys=>e7K e te teq (y=.c (.so id 0 n)) H id n ys (H id)
 |_,_=>none
section
variable {e:TypeId} {te:TyI} {teq:Prop} {H:Heap} {y:AV} {ys xs:List (List AC)} {tg:Tag} {id:Id} {n:Nat}
@[simp] theorem c66:d6p e te teq H (.c (.raw (.slice none 0 0))) y (some ys)=some (teq/\te.ok=true/\(∀r∈ys,r.length=te.sz)/\0<te.sz/\ys.length<=9223372036854775807/\ys.length*te.bytes<=140737488355328,(H,e,te.sz,ys)):=(rfl)
@[simp] theorem d0x:d6p e te teq H (.c (.sl tg true xs)) y (some ys)=some (teq/\te.ok=true/\(∀r∈xs,r.length=te.sz)/\(∀r∈ys,r.length=te.sz)/\0<te.sz/\(0<ys.length\/xs=[])/\
    xs.length+ys.length<=9223372036854775807/\(xs.length+ys.length)*te.bytes<=140737488355328,(H,e,te.sz,xs++ys)):=(rfl)
@[simp] theorem d0y:d6p e te teq H (.c (.so id 0 n)) y (some ys)=e7K e te teq (y=.c (.so id 0 n)) H id n ys (H id):=(rfl)
@[simp] theorem d0z {e' sz:Nat} {same:Prop}:e7K e te teq same H id n ys (.arr e' sz false xs)=some (teq/\e'=e/\sz=te.sz/\te.ok=true/\(∀r∈ys,r.length=sz)/\0<sz/\n=(a2C n xs).length/\¬same/\
   (a2C n xs).length+ys.length<=9223372036854775807/\((a2C n xs).length+ys.length)*te.bytes<=140737488355328,(hset H id .dead,e',sz,a2C n xs++ys)):=(rfl)
attribute [simp] a4f
end
def c67 (H:Heap) (v:AV):Option (List (List AC)):=
 match v with
 |.c c=>rowsOf H c
 |_=>none
@[simp] theorem c68 {H:Heap} {c:AC}:c67 H (.c c)=rowsOf H c:=(rfl)
theorem c3l {d:Nat} {K:St->Prop} {x y:Operand} {t t':TypeId}:abi P (some d) .append [x,y] [t,t'] st K =
  onP (d6p (tyI P t).elem (tyI P (tyI P t).elem) ((tyI P t).form=2/\t'=t) st.H (st.eval x) (st.eval y) (c67 st.H (st.eval y))) fun r=>newObj (st.hto r.1) (some d) r.2.1 r.2.2.1 r.2.2.2 (fun id=>.so id 0 r.2.2.2.length) K:=by
 simp only [abi]
 generalize hy:st.eval y=yv
 have go:∀u:Option (List (List AC)),(match st.eval x,u,some d with
  |.c (.raw (.slice none 0 0)),some ys,some d=>
   ((tyI P t).form=2/\t'=t/\(tyI P (tyI P t).elem).ok=true/\(∀r∈ys,r.length=(tyI P (tyI P t).elem).sz)/\0<(tyI P (tyI P t).elem).sz/\ys.length<=9223372036854775807/\ys.length*(tyI P (tyI P t).elem).bytes<=140737488355328)/\
    newObj st (some d) (tyI P t).elem (tyI P (tyI P t).elem).sz ys (fun id=>.so id 0 ys.length) K
  |.c (.sl _ true xs),some ys,some d=>
   ((tyI P t).form=2/\t'=t/\(tyI P (tyI P t).elem).ok=true/\(∀r∈xs,r.length=(tyI P (tyI P t).elem).sz)/\(∀r∈ys,r.length=(tyI P (tyI P t).elem).sz)/\0<(tyI P (tyI P t).elem).sz/\(0<ys.length\/xs=[])/\
    xs.length+ys.length<=9223372036854775807/\(xs.length+ys.length)*(tyI P (tyI P t).elem).bytes<=140737488355328)/\
    newObj st (some d) (tyI P t).elem (tyI P (tyI P t).elem).sz (xs++ys) (fun id=>.so id 0 (xs.length+ys.length)) K
  |.c (.so id 0 n),some ys,some d=>
   match st.H id with
   |.arr e sz false xs=>
    ((tyI P t).form=2/\t'=t/\e=(tyI P t).elem/\sz=(tyI P (tyI P t).elem).sz/\(tyI P (tyI P t).elem).ok=true/\(∀r∈ys,r.length=sz)/\0<sz/\n=(a2C n xs).length/\yv≠.c (.so id 0 n)/\
     (a2C n xs).length+ys.length<=9223372036854775807/\((a2C n xs).length+ys.length)*(tyI P (tyI P t).elem).bytes<=140737488355328)/\
     newObj {st with H:=hset st.H id .dead} (some d) e sz (a2C n xs++ys) (fun id=>.so id 0 ((a2C n xs).length+ys.length)) K
   |_=>False
  |_,_,_=>False)=onP (d6p (tyI P t).elem (tyI P (tyI P t).elem) ((tyI P t).form=2/\t'=t) st.H (st.eval x) yv u) fun r=>newObj (st.hto r.1) (some d) r.2.1 r.2.2.1 r.2.2.2 (fun id=>.so id 0 r.2.2.2.length) K:=fun u=>by
  generalize st.eval x=v
  cases u with
  |none=>
   cases v with
   |c c=>cases c with
    |raw w=>cases w with
     |slice a b c=>cases a<;>cases b<;>cases c<;>rfl
     |_=>rfl
    |sl _ b _=>cases b<;>rfl
    |so id off n=>cases off<;>rfl
    |_=>rfl
   |_=>rfl
  |some ys=>
   cases v with
   |c c=>cases c with
    |raw w=>cases w with
     |slice a b c=>
      cases a with
      |some a=>rfl
      |none=>cases b with
       |zero=>cases c with
        |zero=>simp only [c66,b1f,and_assoc];rfl
        |succ c=>rfl
       |succ b=>rfl
     |_=>rfl
    |sl tg b xs=>cases b with
     |false=>rfl
     |true=>simp only [d0x,b1f,and_assoc,List.length_append];rfl
    |so id off n=>cases off with
     |succ o=>rfl
     |zero=>
      simp only [d0y]
      cases st.H id with
      |arr ee sz f xs=>cases f with
       |true=>rfl
       |false=>simp only [d0z,b1f,and_assoc,List.length_append,ne_eq];rfl
      |_=>rfl
    |_=>rfl
   |_=>rfl
 exact go (c67 st.H yv)
def e7L (t:TyI) (te:TyI) (H:Heap) (id:Id) (off len:Nat) (ys:List (List AC)) (o:OK):Option (Prop×(Heap×Nat)):=
 match o with
 |.arr e sz false rows=>some (t.form=2/\sz=te.sz/\te.ok=true/\(∀r∈ys,r.length=sz)/\0<sz/\off+len<=rows.length,(hset H id (.arr e sz false (rows.take off++ys.take len++rows.drop (off+min len ys.length))),min len ys.length))
 |_=>none
def d6q (t te:TyI) (H:Heap) (x:AV) (ys:Option (List (List AC))):Option (Prop×(Heap×Nat)):=
 match x,ys with
 |.c (.so id off len),some ys=>e7L t te H id off len ys (H id)
 |_,_=>none
@[simp] theorem c69 {t te:TyI} {H:Heap} {id:Id} {off len:Nat} {ys:List (List AC)}:d6q t te H (.c (.so id off len)) (some ys)=e7L t te H id off len ys (H id):=(rfl)
@[simp] theorem d0A {t te:TyI} {H:Heap} {id:Id} {off len e sz:Nat} {ys rows:List (List AC)}:e7L t te H id off len ys (.arr e sz false rows)=some (t.form=2/\sz=te.sz/\te.ok=true/\(∀r∈ys,r.length=sz)/\0<sz/\off+len<=rows.length,(hset H id (.arr e sz false (rows.take off++ys.take len++rows.drop (off+min len ys.length))),min len ys.length)):=(rfl)
theorem d0B {dst:Option Nat} {K:St->Prop} {x y:Operand} {t t':TypeId}:abi P dst .copy [x,y] [t,t'] st K =
  onP (d6q (tyI P t) (tyI P (tyI P t).elem) st.H (st.eval x) (c67 st.H (st.eval y))) fun r=>K ((st.hto r.1).put dst (.c (.raw (.int .i64 ((r.2:Nat):Int))))):=by
 simp only [abi]
 generalize st.eval x=v
 generalize st.eval y=q
 cases q with
 |c cc=>
  simp only [c68]
  generalize rowsOf st.H cc=u
  cases v with
  |c c=>
   cases c with
   |so id off len=>
    cases u with
    |none=>rfl
    |some ys=>
     simp only [c69]
     cases st.H id with
     |arr ee sz f rows=>
      cases f with
      |true=>rfl
      |false=>simp only [d0A,b1f];rfl
     |_=>rfl
   |_=>rfl
  |_=>rfl
 |_=>
  cases v with
  |c c=>cases c<;>rfl
  |_=>rfl
def e7M (x y:AV):Option (Prop×AV):=
 match x,y with
 |.c (.raw (.int k a)),.c (.raw (.int k' b))=>some (k=k',.c (.raw (.int k (if b<a then b else a))))
 |_,_=>none
@[simp] theorem e7N {k k':IntKind} {a b:Int}:e7M (.c (.raw (.int k a))) (.c (.raw (.int k' b)))=some (k=k',.c (.raw (.int k (if b<a then b else a)))):=(rfl)
theorem d6r {dst:Option Nat} {K:St->Prop} {x y:Operand} {ts:List TypeId}:abi P dst .min [x,y] ts st K=onP (e7M (st.eval x) (st.eval y)) fun v=>K (st.put dst v):=by
 simp only [abi]
 generalize st.eval x=u
 generalize st.eval y=v
 unfold e7M
 split
 ·rfl
 ·rename_i hn
  split
  ·rename_i k a k' b;exact (hn _ _ _ _ rfl rfl).elim
  ·rfl
attribute [simp ↓] c3l d0B d6r
section
variable {ks:List Nat} {xs ys eqs:List AC} {k:IntKind} {a b:Int} {p q r:Bool} {s t:List UInt8} {es:List Nat}
@[simp] theorem e7O:a0W [] [] []=some true:=(rfl)
@[simp] theorem e7P:a0W (3::ks) (.raw (.int k a)::xs) (.raw (.int k b)::ys)=(a0W ks xs ys).map fun r=>decide (a=b)&&r:=by simp [a0W]
@[simp] theorem e7Q:a0W (1::ks) (.str s::xs) (.str t::ys)=(a0W ks xs ys).map fun r=>decide (s=t)&&r:=by simp [a0W]
@[simp] theorem e7R:aeq .eql (some r) es=some (es≠[],.raw (.bool r)):=(rfl)
@[simp] theorem e7S:aeq .neq (some r) es=some (es≠[],.raw (.bool (!r))):=(rfl)
end
@[simp] theorem e7T (H H':Heap):(st.hto H).hto H'=st.hto H':=(rfl)
def a0E (H:Heap) (T:Nat):Prop:=∀k d,T<=k->H (k,d)=.a0g
theorem a0E.set {H:Heap} {T T':Nat} {i:Id} {o:OK} (h:a0E H T) (hT:T<=T') (hi:i.1<T'):a0E (hset H i o) T':=fun k d hk=>by
 unfold hset
 rw [if_neg (fun e=>by rw [<-e] at hi;simp at hi;omega)]
 exact h k d (by omega)
theorem a0E.mono {H:Heap} {T T':Nat} (h:a0E H T) (hT:T<=T'):a0E H T':=fun k d hk=>h k d (by omega)
theorem a0E.lt {H:Heap} {T:Nat} {i:Id} (h:a0E H T) (hi:H i≠.a0g):i.1<T:=by
 rcases Nat.lt_or_ge i.1 T with q|q
 ·exact q
 ·exact (hi (h i.1 i.2 q)).elim
theorem a0E.ne {H:Heap} {T:Nat} {i:Id} (h:a0E H T) (hi:H i≠.a0g) (d:Nat):(T,d)≠i:=fun e=>by
 have:=h.lt hi
 rw [<-e] at this
 simp at this
theorem a0E.nee {H:Heap} {T:Nat} {i:Id} (h:a0E H T) (hi:H i≠.a0g) (k d:Nat) (hk:T<=k):((k,d)=i)=False:=by
 have:=h.lt hi
 simp only [eq_iff_iff,iff_false]
 intro e
 rw [<-e] at this
 simp at this;omega
theorem a0E.e2v {H:Heap} {T:Nat} {i:Id} (h:a0E H T) (hi:H i≠.a0g) (k d:Nat) (hk:T<=k):(i=(k,d))=False:=by
 have:=h.nee hi k d hk
 simp only [eq_iff_iff,iff_false] at this ⊢
 exact fun e=>this e.symm
theorem a1n:a0E a0s 0:=fun _ _ _=>rfl
open Go Go.Proofs
theorem c3m {F:CT} (hF:a1k Tryz.prog F) (l:List UInt8):PEv Tryz.prog 83 [.c (.str l)] (.c (.raw (.bool (decide (l.length=32))))):=by
 refine a0f mixed hF Tryz.func83 f6Y f6Z (by kernel_rfl) (by simp) (by simp) ?_
 simp [s83,ty9,ty3,ty4,Tryz.results83]
 omega
theorem b1h {F:CT} (hF:a1k Tryz.prog F) (n lo hi:Int):PEv Tryz.prog 43 [.c (.raw (.int .i64 n)),.c (.raw (.int .i64 lo)),.c (.raw (.int .i64 hi))] (.c (.raw (.bool (decide (lo<=n)&&decide (n<=hi))))):=by
 refine a0f mixed hF Tryz.func43 f6y f6z (by kernel_rfl) (by simp) (by simp) ?_
 simp [s43,ty9,ty3,ty4,Tryz.results43]
 omega
theorem b5R {F:CT} (hF:a1k Tryz.prog F) (a b:List (List UInt8)) (ha:a.length<4611686018427387904):PEv Tryz.prog 115 [.c (.sl .brw false (a0a a)),.c (.sl .brw false (a0a b))] (.c (.raw (.bool (decide (a=b))))):=by
 refine a0f mixed hF Tryz.func115 e6x e6y (by kernel_rfl) (by simp) (by simp) ?_
 simp [e6w,c51,ty3,ty4,Tryz.results115]
 refine ⟨fun h e=>h (by rw [e]),fun hl=>?_⟩
 have hl:a.length=b.length:=by omega
 refine a1E (fun n st=>∃i:Nat,i<=a.length/\n=a.length-i/\st.s 0=.c (.sl .brw false (a0a a))/\st.s 1=.c (.sl .brw false (a0a b))/\st.s 5=.c (.raw (.int .i64 i))/\a.take i=b.take i) a.length ⟨0,by simp⟩ ?_
 rintro n st ⟨i,hi,rfl,h0,h1,h5,hp⟩
 by_cases hlt:i<a.length
 ·have hb:i<b.length:=by omega
  simp [c26,h0,h1,h5,c51,ty9,ty3,ty4,Tryz.results115,hlt,hb]
  refine ⟨fun hne e=>hne (by subst e;rfl),fun he=>⟨a.length-(i+1),by omega,i+1,by omega,rfl,?_,?_⟩⟩
  ·rw [a0d (by omega) (by omega)];rfl
  ·exact a5W hp hlt hb he
 ·simp [c26,h0,h1,h5,c51,ty9,ty3,ty4,Tryz.results115,hlt]
  have:i=a.length:=by omega
  rw [this,List.take_length,hl,List.take_length] at hp
  exact hp
theorem b0P {F:CT} (hF:a1k Tryz.prog F) (l:List (List UInt8)) (hl:l.length<1000000):PEv Tryz.prog 78 [.c (.sl .brw false (a0a l))] (.c (.nw 9 1 (a0a l))):=by
 refine a0f mixed hF Tryz.func78 f6Q f6R (by kernel_rfl) (by simp) (by simp) ?_
 simp [s78,c51,ty3,ty4,Tryz.results78]
 refine a1E (fun n st=>∃i:Nat,i<=l.length/\n=l.length-i/\st.s 0=.c (.sl .brw false (a0a l))/\st.s 4=.c (.raw (.int .i64 i))/\a0E st.H st.T/\
  ((st.s 3=.c (.raw (.slice none 0 0))/\i=0)\/∃id,st.s 3=.c (.so id 0 i)/\st.H id=.arr 9 1 false (a0a (l.take i)))) l.length ⟨0,by simp [a1n.mono]⟩ ?_
 rintro n st ⟨i,hi,rfl,h0,h4,hf,hown⟩
 have hff:=fun d=>hf (st.T+1) d (by omega)
 by_cases hlt:i<l.length
 ·have hw:IntKind.wrap .i64 ((i:Int)+1)=((i+1:Nat):Int):=by rw [a0d]<;>omega
  have ht:a0a (l.take (i+1))=a0a (l.take i)++[Enc.row l[i]]:=by rw [a4h,List.take_add_one];simp [hlt]
  rcases hown with ⟨h3,rfl⟩|⟨id,h3,hid⟩
  ·simp [c23,h0,h4,h3,c51,ty9,ty3,ty4,hlt,hff]
   refine ⟨_,?_,1,?_,rfl,rfl,?_,_,_,⟨⟨rfl,rfl⟩,rfl⟩,?_⟩
   ·omega
   ·omega
   ·exact (hf.set (T':=st.T+2) (by omega) (by simp)).set (by omega) (by simp)
   ·simp at ht;simp [ht]
  ·have hne:=hf.nee (i:=id) (by rw [hid];simp) (st.T+1)
   have hne':=hf.e2v (i:=id) (by rw [hid];simp) (st.T+1)
   have hi2:(a0a (l.take i)).length=i:=by simp;omega
   simp [c23,h0,h4,h3,c51,ty9,ty3,ty4,hlt,hff,hid,hne,hne',hw,Nat.min_eq_left hi]
   refine ⟨by omega,_,?_,i+1,?_,rfl,rfl,?_,_,_,⟨⟨rfl,rfl⟩,rfl⟩,?_⟩
   ·omega
   ·omega
   ·exact ((hf.set (T':=st.T+2) (by omega) (by simp)).set (T':=st.T+2) (by omega) (by have:=hf.lt (i:=id) (by rw [hid];simp);omega)).set (by omega) (by simp)
   ·simp [ht]
 ·rcases hown with ⟨h3,rfl⟩|⟨id,h3,hid⟩
  ·simp [c23,h0,h4,h3,c51,ty9,ty3,ty4,Tryz.results78,hlt,hff]
   simpa using hlt
  ·have:i=l.length:=by omega
   subst this
   simp [c23,h0,h4,h3,c51,ty9,ty3,ty4,Tryz.results78,hlt,hff,hid]
open Go
theorem c7a {P:Program} {F:CT} {x y:SC} {id:Nat} {Q Q':AEx->St->Prop} {st:St} (R:St->Prop) (hl:a2S P F x (a4o id (a4C R Q')) st) (hy:∀st,R st->a2S P F y Q st) :
  a2S P F x (a4o id (a4C (a2S P F y Q) Q')) st:=by
 refine a3y (fun e st h=>?_) hl
 cases e with
 |normal=>exact hy st h
 |exit j=>
  simp only [b9Z] at h ⊢
  split
  ·rename_i hj
   rw [if_pos hj] at h
   exact hy st h
  ·rename_i hj
   rw [if_neg hj] at h
   exact h
 |ret=>exact h
class Arg (α:Type) where
 enc:α->AV
 dec:AV->Option α
 a1o:∀{x:AV} {a:α},dec x=some a->x=enc a
section
variable {P:Program} {α β γ δ:Type} [Arg α] [Arg β] [Arg γ] [Arg δ]
def t1 (C:α->Prop) (R:α->AV):List AV->Option (Prop×AV)
 |[x]=>(Arg.dec x).map fun a=>(C a,R a)
 |_=>none
def t2 (C:α->β->Prop) (R:α->β->AV):List AV->Option (Prop×AV)
 |[x,y]=>match Arg.dec x,Arg.dec y with
  |some a,some b=>some (C a b,R a b)
  |_,_=>none
 |_=>none
def t3 (C:α->β->γ->Prop) (R:α->β->γ->AV):List AV->Option (Prop×AV)
 |[x,y,z]=>match Arg.dec x,Arg.dec y,Arg.dec z with
  |some a,some b,some c=>some (C a b c,R a b c)
  |_,_,_=>none
 |_=>none
theorem a0n {f:FuncId} {C:α->Prop} {R:α->AV} (h:∀a,C a->PEv P f [Arg.enc a] (R a)):c2R P f (t1 C R):=by
 intro args D ret he hD
 unfold t1 at he
 split at he
 ·rename_i x
  rw [Option.map_eq_some_iff] at he
  obtain ⟨a,h1,h2⟩:=he
  cases h2
  rw [Arg.a1o h1]
  exact h a hD
 ·cases he
theorem a0P {f:FuncId} {C:α->β->Prop} {R:α->β->AV} (h:∀a b,C a b->PEv P f [Arg.enc a,Arg.enc b] (R a b)):c2R P f (t2 C R):=by
 intro args D ret he hD
 unfold t2 at he
 split at he
 ·split at he
  ·rename_i a b h1 h2
   cases he
   rw [Arg.a1o h1,Arg.a1o h2]
   exact h a b hD
  ·cases he
 ·cases he
theorem a4L {f:FuncId} {C:α->β->γ->Prop} {R:α->β->γ->AV} (h:∀a b c,C a b c->PEv P f [Arg.enc a,Arg.enc b,Arg.enc c] (R a b c)):c2R P f (t3 C R):=by
 intro args D ret he hD
 unfold t3 at he
 split at he
 ·split at he
  ·rename_i a b c h1 h2 h3
   cases he
   rw [Arg.a1o h1,Arg.a1o h2,Arg.a1o h3]
   exact h a b c hD
  ·cases he
 ·cases he
end
@[simp] theorem f7u {α:Type} [Arg α] {C:α->Prop} {R:α->AV} {x:AV}:t1 C R [x]=(Arg.dec x).map fun a=>(C a,R a):=(rfl)
@[simp] theorem f7v {α β:Type} [Arg α] [Arg β] {C:α->β->Prop} {R:α->β->AV} {x y:AV}:t2 C R [x,y]=(match (Arg.dec x:Option α),(Arg.dec y:Option β) with
  |some a,some b=>some (C a b,R a b)
  |_,_=>none):=(rfl)
@[simp] theorem f7w {α β γ:Type} [Arg α] [Arg β] [Arg γ] {C:α->β->γ->Prop} {R:α->β->γ->AV} {x y z:AV}:t3 C R [x,y,z]=(match (Arg.dec x:Option α),(Arg.dec y:Option β),(Arg.dec z:Option γ) with
  |some a,some b,some c=>some (C a b c,R a b c)
  |_,_,_=>none):=(rfl)
def t0 (R:AV):List AV->Option (Prop×AV)
 |[]=>some (True,R)
 |_=>none
@[simp] theorem f7x {R:AV}:t0 R []=some (True,R):=(rfl)
theorem b1i {P:Program} {f:FuncId} {R:AV} (h:PEv P f [] R):c2R P f (t0 R):=by
 intro args D ret he hD
 cases args with
 |nil=>cases he;exact h
 |cons a r=>cases he
def t4 {α β γ δ:Type} [Arg α] [Arg β] [Arg γ] [Arg δ] (C:α->β->γ->δ->Prop) (R:α->β->γ->δ->AV):List AV->Option (Prop×AV)
 |[x,y,z,u]=>match Arg.dec x,Arg.dec y,Arg.dec z,Arg.dec u with
  |some a,some b,some c,some d=>some (C a b c d,R a b c d)
  |_,_,_,_=>none
 |_=>none
instance g0M:Arg Int where
 enc n:=.c (.raw (.int .i64 n))
 dec|.c (.raw (.int .i64 n))=>some n|_=>none
 a1o {x a} h:=by split at h<;>simp_all
instance g0N:Arg (List UInt8) where
 enc s:=.c (.str s)
 dec|.c (.str s)=>some s|_=>none
 a1o {x a} h:=by split at h<;>simp_all
instance f4M {α:Type} [Enc α]:Arg (List α) where
 enc l:=.c (.sl .brw false (a0a l))
 dec|.c (.sl .brw false xs)=>a4A xs|_=>none
 a1o {x a} h:=by
  split at h
  ·rw [a0O h]
  ·cases h
@[simp] theorem f7y (n:Int):Arg.enc n=.c (.raw (.int .i64 n)):=(rfl)
@[simp] theorem f7z {α:Type} [Enc α] (l:List α):@Arg.enc (List α) f4M l=.c (.sl .brw false (a0a l)):=(rfl)
@[simp] theorem f7A (n:Int):Arg.dec (.c (.raw (.int .i64 n)))=some n:=(rfl)
@[simp] theorem f7B (s:List UInt8):(Arg.dec (.c (.str s)):Option (List UInt8))=some s:=(rfl)
@[simp] theorem f7C {α:Type} [Enc α] (l:List α):@Arg.dec (List α) f4M (.c (.sl .brw false (a0a l)))=some l:=a7q l
open Go
structure a4M where
 at_:Int
 text:List UInt8
 deriving DecidableEq
instance e7U:Enc a4M where
 w:=2
 row s:=[.raw (.int .i64 s.at_),.str s.text]
 dec|[.raw (.int .i64 n),.str t]=>some ⟨n,t⟩|_=>none
 a36 _:=rfl
 a3O {r a} h:=by split at h<;>simp_all;subst h;exact ⟨rfl,rfl⟩
 len _:=rfl
 old a c hc:=by simp at hc;rcases hc with rfl|rfl<;>constructor
 ret a c hc:=by simp at hc;rcases hc with rfl|rfl<;>constructor
@[simp] theorem e2w (s:a4M):Enc.row s=[AC.raw (.int .i64 s.at_),AC.str s.text]:=rfl
@[simp] theorem f4N:Enc.w a4M=2:=rfl
structure a0k where
 safe:List (List UInt8)
 wait:List a4M
 deriving DecidableEq
theorem a4M.a9g {a b:a4M}:a=b↔a.at_=b.at_/\a.text=b.text:=by
 cases a;cases b;simp
open Go Go.Proofs
theorem b5S {F:CT} (hF:a1k Tryz.prog F) (a b:List a4M) (ha:a.length<4611686018427387904):PEv Tryz.prog 116 [.c (.sl .brw false (a0a a)),.c (.sl .brw false (a0a b))] (.c (.raw (.bool (decide (a=b))))):=by
 refine a0f mixed hF Tryz.func116 e6A e6B (by kernel_rfl) (by simp) (by simp) ?_
 simp [e6z,c52,b0O,ty3,ty4,Tryz.results116]
 refine ⟨fun h e=>h (by rw [e]),fun hl=>?_⟩
 have hl:a.length=b.length:=by omega
 refine a1E (fun n st=>∃i:Nat,i<=a.length/\n=a.length-i/\st.s 0=.c (.sl .brw false (a0a a))/\st.s 1=.c (.sl .brw false (a0a b))/\st.s 5=.c (.raw (.int .i64 i))/\a.take i=b.take i) a.length ⟨0,by simp⟩ ?_
 rintro n st ⟨i,hi,rfl,h0,h1,h5,hp⟩
 by_cases hlt:i<a.length
 ·have hb:i<b.length:=by omega
  simp [c27,h0,h1,h5,c52,b0O,ty3,ty4,Tryz.results116,hlt,hb]
  refine ⟨by rintro hne rfl;simp at hne,fun he he2=>⟨a.length-(i+1),by omega,i+1,by omega,rfl,?_,?_⟩⟩
  ·rw [a0d (by omega) (by omega)];rfl
  ·exact a5W hp hlt hb (a4M.a9g.2 ⟨he,he2⟩)
 ·simp [c27,h0,h1,h5,c52,b0O,ty3,ty4,Tryz.results116,hlt]
  have:i=a.length:=by omega
  rw [this,List.take_length,hl,List.take_length] at hp
  exact hp
theorem b0Q {F:CT} (hF:a1k Tryz.prog F) (l:List a4M) (hl:l.length<1000000):PEv Tryz.prog 79 [.c (.sl .brw false (a0a l))] (.c (.nw 125 2 (a0a l))):=by
 refine a0f mixed hF Tryz.func79 f6S f6T (by kernel_rfl) (by simp) (by simp) ?_
 simp [s79,c52,b0O,ty3,ty4,Tryz.results79]
 refine a1E (fun n st=>∃i:Nat,i<=l.length/\n=l.length-i/\st.s 0=.c (.sl .brw false (a0a l))/\st.s 4=.c (.raw (.int .i64 i))/\a0E st.H st.T/\
  ((st.s 3=.c (.raw (.slice none 0 0))/\i=0)\/∃id,st.s 3=.c (.so id 0 i)/\st.H id=.arr 125 2 false (a0a (l.take i)))) l.length ⟨0,by simp [a1n.mono]⟩ ?_
 rintro n st ⟨i,hi,rfl,h0,h4,hf,hown⟩
 have hff:=fun d=>hf (st.T+1) d (by omega)
 by_cases hlt:i<l.length
 ·have hw:IntKind.wrap .i64 ((i:Int)+1)=((i+1:Nat):Int):=by rw [a0d]<;>omega
  have ht:a0a (l.take (i+1))=a0a (l.take i)++[Enc.row l[i]]:=by rw [a4h,List.take_add_one];simp [hlt]
  rcases hown with ⟨h3,rfl⟩|⟨id,h3,hid⟩
  ·simp [c24,h0,h4,h3,c52,b0O,ty3,ty4,hlt,hff]
   refine ⟨_,?_,1,?_,rfl,rfl,?_,_,_,⟨⟨rfl,rfl⟩,rfl⟩,?_⟩
   ·omega
   ·omega
   ·exact (hf.set (T':=st.T+2) (by omega) (by simp)).set (by omega) (by simp)
   ·simp at ht;simp [ht]
  ·have hne:=hf.nee (i:=id) (by rw [hid];simp) (st.T+1)
   have hne':=hf.e2v (i:=id) (by rw [hid];simp) (st.T+1)
   simp [c24,h0,h4,h3,c52,b0O,ty3,ty4,hlt,hff,hid,hne,hne',hw,Nat.min_eq_left hi]
   refine ⟨by omega,_,?_,i+1,?_,rfl,rfl,?_,_,_,⟨⟨rfl,rfl⟩,rfl⟩,?_⟩
   ·omega
   ·omega
   ·exact ((hf.set (T':=st.T+2) (by omega) (by simp)).set (T':=st.T+2) (by omega) (by have:=hf.lt (i:=id) (by rw [hid];simp);omega)).set (by omega) (by simp)
   ·simp [ht]
 ·rcases hown with ⟨h3,rfl⟩|⟨id,h3,hid⟩
  ·simp [c24,h0,h4,h3,c52,b0O,ty3,ty4,Tryz.results79,hlt,hff]
   simpa using hlt
  ·have:i=l.length:=by omega
   subst this
   simp [c24,h0,h4,h3,c52,b0O,ty3,ty4,Tryz.results79,hlt,hff,hid]
theorem a6H {F:CT} (hF:a1k Tryz.prog F) (l:List Int) (hl:l.length<1000000):PEv Tryz.prog 52 [.c (.sl .brw false (a0a l))] (.c (.nw 3 1 (a0a l))):=by
 refine a0f mixed hF Tryz.func52 f6C f6D (by kernel_rfl) (by simp) (by simp) ?_
 simp [s52,d5q,ty3,ty3,ty4,Tryz.results52]
 refine a1E (fun n st=>∃i:Nat,i<=l.length/\n=l.length-i/\st.s 0=.c (.sl .brw false (a0a l))/\st.s 4=.c (.raw (.int .i64 i))/\a0E st.H st.T/\
  ((st.s 3=.c (.raw (.slice none 0 0))/\i=0)\/∃id,st.s 3=.c (.so id 0 i)/\st.H id=.arr 3 1 false (a0a (l.take i)))) l.length ⟨0,by simp [a1n.mono]⟩ ?_
 rintro n st ⟨i,hi,rfl,h0,h4,hf,hown⟩
 have hff:=fun d=>hf (st.T+1) d (by omega)
 by_cases hlt:i<l.length
 ·have hw:IntKind.wrap .i64 ((i:Int)+1)=((i+1:Nat):Int):=by rw [a0d]<;>omega
  have ht:a0a (l.take (i+1))=a0a (l.take i)++[Enc.row l[i]]:=by rw [a4h,List.take_add_one];simp [hlt]
  rcases hown with ⟨h3,rfl⟩|⟨id,h3,hid⟩
  ·simp [c21,h0,h4,h3,d5q,ty3,ty3,ty4,hlt,hff]
   refine ⟨_,?_,1,?_,rfl,rfl,?_,_,_,⟨⟨rfl,rfl⟩,rfl⟩,?_⟩
   ·omega
   ·omega
   ·exact (hf.set (T':=st.T+2) (by omega) (by simp)).set (by omega) (by simp)
   ·simp at ht;simp [ht]
  ·have hne:=hf.nee (i:=id) (by rw [hid];simp) (st.T+1)
   have hne':=hf.e2v (i:=id) (by rw [hid];simp) (st.T+1)
   simp [c21,h0,h4,h3,d5q,ty3,ty3,ty4,hlt,hff,hid,hne,hne',hw,Nat.min_eq_left hi]
   refine ⟨by omega,_,?_,i+1,?_,rfl,rfl,?_,_,_,⟨⟨rfl,rfl⟩,rfl⟩,?_⟩
   ·omega
   ·omega
   ·exact ((hf.set (T':=st.T+2) (by omega) (by simp)).set (T':=st.T+2) (by omega) (by have:=hf.lt (i:=id) (by rw [hid];simp);omega)).set (by omega) (by simp)
   ·simp [ht]
 ·rcases hown with ⟨h3,rfl⟩|⟨id,h3,hid⟩
  ·simp [c21,h0,h4,h3,d5q,ty3,ty3,ty4,Tryz.results52,hlt,hff]
   simpa using hlt
  ·have:i=l.length:=by omega
   subst this
   simp [c21,h0,h4,h3,d5q,ty3,ty3,ty4,Tryz.results52,hlt,hff,hid]
open Go Go.Proofs
def c3n:List AV->Option (Prop×AV):=t1 (fun _=>True) fun l:List UInt8=>.c (.raw (.bool (decide (l.length=32))))
@[simp] theorem e7V {l:List AV}:c3n l=(t1 (fun _=>True) fun l:List UInt8=>.c (.raw (.bool (decide (l.length=32))))) l:=(rfl)
def b7y:List AV->Option (Prop×AV):=t2 (fun a _=>a.length<4611686018427387904) fun (a b:List (List UInt8))=>.c (.raw (.bool (decide (a=b))))
@[simp] theorem e2x {l:List AV}:b7y l=(t2 (fun a _=>a.length<4611686018427387904) fun (a b:List (List UInt8))=>.c (.raw (.bool (decide (a=b))))) l:=(rfl)
def b7z:List AV->Option (Prop×AV):=t2 (fun a _=>a.length<4611686018427387904) fun (a b:List a4M)=>.c (.raw (.bool (decide (a=b))))
@[simp] theorem e2y {l:List AV}:b7z l=(t2 (fun a _=>a.length<4611686018427387904) fun (a b:List a4M)=>.c (.raw (.bool (decide (a=b))))) l:=(rfl)
def c3o:List AV->Option (Prop×AV):=t1 (fun l=>l.length<1000000) fun l:List (List UInt8)=>.c (.nw 9 1 (a0a l))
@[simp] theorem e7W {l:List AV}:c3o l=(t1 (fun l=>l.length<1000000) fun l:List (List UInt8)=>.c (.nw 9 1 (a0a l))) l:=(rfl)
def c3p:List AV->Option (Prop×AV):=t1 (fun l=>l.length<1000000) fun l:List a4M=>.c (.nw 125 2 (a0a l))
@[simp] theorem e7X {l:List AV}:c3p l=(t1 (fun l=>l.length<1000000) fun l:List a4M=>.c (.nw 125 2 (a0a l))) l:=(rfl)
def d6s:List AV->Option (Prop×AV):=t1 (fun l=>l.length<1000000) fun l:List Int=>.c (.nw 3 1 (a0a l))
def c3q:List AV->Option (Prop×AV):=t3 (fun _ _ _=>True) fun n lo hi:Int=>.c (.raw (.bool (decide (lo<=n)&&decide (n<=hi))))
@[simp] theorem e7Y {l:List AV}:c3q l=(t3 (fun _ _ _=>True) fun n lo hi:Int=>.c (.raw (.bool (decide (lo<=n)&&decide (n<=hi))))) l:=(rfl)
def F1:CT:=(83,.pu c3n)::(115,.pu b7y)::(116,.pu b7z)::(78,.pu c3o)::(79,.pu c3p)::(52,.pu d6s)::(43,.pu c3q)::[]
theorem b2A:a1k Tryz.prog F1:=⟨a0n fun l _=>c3m (F:=[]) trivial l,
 a0P fun a b h=>b5R (F:=[]) trivial a b h,
 a0P fun a b h=>b5S (F:=[]) trivial a b h,
 a0n fun l h=>b0P (F:=[]) trivial l h,
 a0n fun l h=>b0Q (F:=[]) trivial l h,
 a0n fun l h=>a6H (F:=[]) trivial l h,
 a4L fun n lo hi _=>b1h (F:=[]) trivial n lo hi,trivial⟩
@[simp] theorem e2z:a0c F1 83=some (.pu c3n):=(rfl)
@[simp] theorem d6t:a0c F1 115=some (.pu b7y):=(rfl)
@[simp] theorem d6u:a0c F1 116=some (.pu b7z):=(rfl)
@[simp] theorem e2A:a0c F1 78=some (.pu c3o):=(rfl)
@[simp] theorem e2B:a0c F1 79=some (.pu c3p):=(rfl)
@[simp] theorem e2C:a0c F1 43=some (.pu c3q):=(rfl)
@[simp] theorem e7Z {n:Nat} (h:(n==83||n==115||n==116||n==78||n==79||n==52||n==43)=false):a0c F1 n=a0c ([]:CT) n:=by
 simp only [Bool.or_eq_false_iff,beq_eq_false_iff_ne,ne_eq] at h
 simp [F1,a0c,h]
instance e70:Arg a0k where
 enc d:=.g [.sl .brw false (a0a d.safe),.sl .brw false (a0a d.wait)]
 dec|.g [.sl .brw false a,.sl .brw false b]=>(match a4A a,a4A b with|some a,some b=>some ⟨a,b⟩|_,_=>none)|_=>none
 a1o {x d} h:=by
  split at h
  ·split at h
   ·rename_i h1 h2
    cases h
    rw [a0O h1,a0O h2]
   ·cases h
  ·cases h
@[simp] theorem e2D (d:a0k):Arg.enc d=.g [.sl .brw false (a0a d.safe),.sl .brw false (a0a d.wait)]:=rfl
@[simp] theorem c7b (a:List (List UInt8)) (b:List a4M):Arg.dec (.g [.sl .brw false (a0a a),.sl .brw false (a0a b)])=some (a0k.mk a b):=by
 show (match a4A (a0a a),a4A (a0a b) with|some a,some b=>some (a0k.mk a b)|_,_=>none)=_
 simp
def a0y (d:a0k):List AC:=[.nw 9 1 (a0a d.safe),.nw 125 2 (a0a d.wait)]
theorem b5T (a b:a0k) (h1:a.safe.length<4611686018427387904) (h2:a.wait.length<4611686018427387904):PEv Tryz.prog 62 [Arg.enc a,Arg.enc b] (.c (.raw (.bool (decide (a=b))))):=by
 refine a0f mixed b2A Tryz.func62 f6G f6H (by kernel_rfl) (by simp) (by simp) ?_
 simp [s62,f4c,c51,c52,ty3,ty4,b0O,Tryz.results62,h1,h2]
 cases a;cases b
 simp
 exact ⟨fun h _=>h,fun h h'=>(h h').elim⟩
theorem a5r (d:a0k) (h1:d.safe.length<1000000) (h2:d.wait.length<1000000):PEv Tryz.prog 34 [Arg.enc d] (.g (a0y d)):=by
 refine a0f mixed b2A Tryz.func34 sl34 f6q (by kernel_rfl) (by simp [a0y]) (by simp) ?_
 simp [s34,f4c,c51,c52,ty3,ty4,b0O,h1,h2,Tryz.results34,a0y]
open Go
structure a0F where
 site:Int
 seq:Int
 i:Int
 deriving DecidableEq
instance e71:Enc a0F where
 w:=3
 row e:=[.raw (.int .i64 e.site),.raw (.int .i64 e.seq),.raw (.int .i64 e.i)]
 dec|[.raw (.int .i64 a),.raw (.int .i64 b),.raw (.int .i64 c)]=>some ⟨a,b,c⟩|_=>none
 a36 _:=rfl
 a3O {r a} h:=by split at h<;>simp_all;subst h;exact ⟨rfl,rfl,rfl⟩
 len _:=rfl
 old a c hc:=by simp at hc;rcases hc with rfl|rfl|rfl<;>constructor
 ret a c hc:=by simp at hc;rcases hc with rfl|rfl|rfl<;>constructor
@[simp] theorem e2E (e:a0F):Enc.row e=[AC.raw (.int .i64 e.site),AC.raw (.int .i64 e.seq),AC.raw (.int .i64 e.i)]:=rfl
@[simp] theorem f4O:Enc.w a0F=3:=rfl
structure OpV where
 site:Int
 seq:Int
 kind:Int
 after:a0F
 text:List UInt8
 gone:List a0F
 of_:Int
 num:Int
 gen:Int
 deriving DecidableEq
def a0e (t:Tag) (o:OpV):List AC:=
 [.raw (.int .i64 o.site),.raw (.int .i64 o.seq),.raw (.int .i64 o.kind),.raw (.int .i64 o.after.site),.raw (.int .i64 o.after.seq),.raw (.int .i64 o.after.i),.str o.text,.sl t false (a0a o.gone),.raw (.int .i64 o.of_),.raw (.int .i64 o.num),.raw (.int .i64 o.gen)]
def b7A (t:Tag):List AC->Option OpV
 |[.raw (.int .i64 a),.raw (.int .i64 b),.raw (.int .i64 c),.raw (.int .i64 d),.raw (.int .i64 e),.raw (.int .i64 f),.str s,.sl t' false g,.raw (.int .i64 h),.raw (.int .i64 i),.raw (.int .i64 j)]=>
  if t'=t then (a4A g).map fun g=>⟨a,b,c,⟨d,e,f⟩,s,g,h,i,j⟩ else none
 |_=>none
theorem a5X (t:Tag) (o:OpV):b7A t (a0e t o)=some o:=by
 unfold b7A a0e
 simp
theorem a9S {t:Tag} {r:List AC} {o:OpV} (h:b7A t r=some o):r=a0e t o:=by
 unfold b7A at h
 split at h
 ·split at h
  ·rename_i ht
   subst ht
   rw [Option.map_eq_some_iff] at h
   obtain ⟨g,hg,rfl⟩:=h
   rw [a0O hg]
   rfl
  ·cases h
 ·cases h
theorem c3r (t:Tag) (o:OpV):(a0e t o).length=11:=rfl
instance f7D:Enc OpV where
 w:=11
 row:=a0e .old
 dec:=b7A .old
 a36:=a5X .old
 a3O:=a9S
 len:=c3r .old
 old a c hc:=by simp [a0e] at hc;rcases hc with rfl|rfl|rfl|rfl|rfl|rfl|rfl|rfl|rfl|rfl|rfl<;>simp [a7g,a7h,a6i]
 ret a c hc:=by simp [a0e] at hc;rcases hc with rfl|rfl|rfl|rfl|rfl|rfl|rfl|rfl|rfl|rfl|rfl<;>simp [a5N,a5O,a4G]
@[simp] theorem f4P (o:OpV):Enc.row o=a0e .old o:=rfl
@[simp] theorem g0O:Enc.w OpV=11:=rfl
structure a0i where
 join:Bool
 a0H:Int
 op:OpV
 deriving DecidableEq
def a0m (t:Tag) (e:a0i):List AC:=.raw (.bool e.join)::.raw (.int .i64 e.a0H)::a0e t e.op
def b1j (t:Tag):List AC->Option a0i
 |.raw (.bool j)::.raw (.int .i64 n)::r=>(b7A t r).map fun o=>⟨j,n,o⟩
 |_=>none
theorem a6n (t:Tag) (e:a0i):b1j t (a0m t e)=some e:=by simp [b1j,a0m,a5X]
theorem b1k {t:Tag} {r:List AC} {e:a0i} (h:b1j t r=some e):r=a0m t e:=by
 unfold b1j at h
 split at h
 ·rw [Option.map_eq_some_iff] at h
  obtain ⟨o,ho,rfl⟩:=h
  rw [a9S ho]
  rfl
 ·cases h
instance e2F:Enc a0i where
 w:=13
 row:=a0m .old
 dec:=b1j .old
 a36:=a6n .old
 a3O:=b1k
 len _:=rfl
 old a c hc:=by simp [a0m,a0e] at hc;rcases hc with rfl|rfl|rfl|rfl|rfl|rfl|rfl|rfl|rfl|rfl|rfl|rfl|rfl<;>simp [a7g,a7h,a6i]
 ret a c hc:=by simp [a0m,a0e] at hc;rcases hc with rfl|rfl|rfl|rfl|rfl|rfl|rfl|rfl|rfl|rfl|rfl|rfl|rfl<;>simp [a5N,a5O,a4G]
@[simp] theorem d6v (e:a0i):Enc.row e=a0m .old e:=rfl
@[simp] theorem e72:Enc.w a0i=13:=rfl
instance e73:Arg a0F where
 enc e:=.g (Enc.row e)
 dec|.g r=>Enc.dec r|_=>none
 a1o {x a} h:=by
  split at h
  ·rw [Enc.a3O h]
  ·cases h
instance f7E:Arg OpV where
 enc o:=.g (a0e .brw o)
 dec|.g r=>b7A .brw r|_=>none
 a1o {x a} h:=by
  split at h
  ·rw [a9S h]
  ·cases h
instance e2G:Arg a0i where
 enc e:=.g (a0m .brw e)
 dec|.g r=>b1j .brw r|_=>none
 a1o {x a} h:=by
  split at h
  ·rw [b1k h]
  ·cases h
instance g0P:Arg Bool where
 enc b:=.c (.raw (.bool b))
 dec|.c (.raw (.bool b))=>some b|_=>none
 a1o {x a} h:=by split at h<;>simp_all
@[simp] theorem f7F (b:Bool):Arg.enc b=.c (.raw (.bool b)):=rfl
@[simp] theorem f7G (b:Bool):(Arg.dec (.c (.raw (.bool b))):Option Bool)=some b:=rfl
@[simp] theorem e2H (e:a0F):Arg.enc e=.g [AC.raw (.int .i64 e.site),AC.raw (.int .i64 e.seq),AC.raw (.int .i64 e.i)]:=rfl
@[simp] theorem e2I (a b c:Int):(Arg.dec (.g [AC.raw (.int .i64 a),AC.raw (.int .i64 b),AC.raw (.int .i64 c)]):Option a0F)=some ⟨a,b,c⟩:=rfl
@[simp] theorem f4Q (o:OpV):Arg.enc o=.g (a0e .brw o):=rfl
@[simp] theorem f4R (a b c d e f:Int) (s:List UInt8) (g:List a0F) (h i j:Int) :
  (Arg.dec (.g [.raw (.int .i64 a),.raw (.int .i64 b),.raw (.int .i64 c),.raw (.int .i64 d),.raw (.int .i64 e),.raw (.int .i64 f),.str s,.sl .brw false (a0a g),.raw (.int .i64 h),.raw (.int .i64 i),.raw (.int .i64 j)]):Option OpV) =
   some ⟨a,b,c,⟨d,e,f⟩,s,g,h,i,j⟩:=a5X .brw ⟨a,b,c,⟨d,e,f⟩,s,g,h,i,j⟩
@[simp] theorem e74 (a b c d e f:Int) (s:List UInt8) (h i j:Int) :
  (Arg.dec (.g [.raw (.int .i64 a),.raw (.int .i64 b),.raw (.int .i64 c),.raw (.int .i64 d),.raw (.int .i64 e),.raw (.int .i64 f),.str s,.sl .brw false [],.raw (.int .i64 h),.raw (.int .i64 i),.raw (.int .i64 j)]):Option OpV) =
   some ⟨a,b,c,⟨d,e,f⟩,s,[],h,i,j⟩:=a5X .brw ⟨a,b,c,⟨d,e,f⟩,s,[],h,i,j⟩
@[simp high] theorem e75 (o:OpV):(Arg.dec (.g [.raw (.int .i64 o.site),.raw (.int .i64 o.seq),.raw (.int .i64 o.kind),.raw (.int .i64 o.after.site),.raw (.int .i64 o.after.seq),.raw (.int .i64 o.after.i),.str o.text,.sl .brw false (a0a o.gone),.raw (.int .i64 o.of_),.raw (.int .i64 o.num),.raw (.int .i64 o.gen)]):Option OpV)=some o:=a5X .brw o
@[simp] theorem d6w (e:a0i):Arg.enc e=.g (a0m .brw e):=rfl
@[simp] theorem d6x (j:Bool) (n a b c d e f:Int) (s:List UInt8) (g:List a0F) (h i k:Int) :
  (Arg.dec (.g [.raw (.bool j),.raw (.int .i64 n),.raw (.int .i64 a),.raw (.int .i64 b),.raw (.int .i64 c),.raw (.int .i64 d),.raw (.int .i64 e),.raw (.int .i64 f),.str s,.sl .brw false (a0a g),.raw (.int .i64 h),.raw (.int .i64 i),.raw (.int .i64 k)]):Option a0i) =
   some ⟨j,n,a,b,c,⟨d,e,f⟩,s,g,h,i,k⟩:=a6n .brw ⟨j,n,a,b,c,⟨d,e,f⟩,s,g,h,i,k⟩
@[simp] theorem d2A (j:Bool) (n a b c d e f:Int) (s:List UInt8) (h i k:Int) :
  (Arg.dec (.g [.raw (.bool j),.raw (.int .i64 n),.raw (.int .i64 a),.raw (.int .i64 b),.raw (.int .i64 c),.raw (.int .i64 d),.raw (.int .i64 e),.raw (.int .i64 f),.str s,.sl .brw false [],.raw (.int .i64 h),.raw (.int .i64 i),.raw (.int .i64 k)]):Option a0i) =
   some ⟨j,n,a,b,c,⟨d,e,f⟩,s,[],h,i,k⟩:=a6n .brw ⟨j,n,a,b,c,⟨d,e,f⟩,s,[],h,i,k⟩
@[simp high] theorem e2J (e:a0i):(Arg.dec (.g [.raw (.bool e.join),.raw (.int .i64 e.a0H),.raw (.int .i64 e.op.site),.raw (.int .i64 e.op.seq),.raw (.int .i64 e.op.kind),.raw (.int .i64 e.op.after.site),.raw (.int .i64 e.op.after.seq),.raw (.int .i64 e.op.after.i),.str e.op.text,.sl .brw false (a0a e.op.gone),.raw (.int .i64 e.op.of_),.raw (.int .i64 e.op.num),.raw (.int .i64 e.op.gen)]):Option a0i)=some e:=a6n .brw e
open Go
variable {P:Program}
theorem a2B.ctx {C:Ctx P} {H:Heap} {ρ:Lies} {w:World} (h:a2B C H ρ w) (X:World->(Tag->Nat->Prop)->Heap->Lies->Prop)
  (b42:∀{w w':World} {F F':Tag->Nat->Prop} {H H':Heap} {ρ ρ':Lies},a13 w w' F F' H H' ρ ρ'->X w F H ρ->X w' F' H' ρ'):a2B (P:=P) ⟨C.w0,C.hI,C.G,X,b42,C.B,C.K⟩ H ρ w:=
 ⟨h.below,h.row,h.inj,h.fin,⟨h.maps.row,h.maps.inj,h.maps.there,h.maps.not⟩⟩
theorem a2B.d6y {C:Ctx P} {H:Heap} {ρ:Lies} {w:World} {X:World->(Tag->Nat->Prop)->Heap->Lies->Prop}
  {b42:∀{w w':World} {F F':Tag->Nat->Prop} {H H':Heap} {ρ ρ':Lies},a13 w w' F F' H H' ρ ρ'->X w F H ρ->X w' F' H' ρ'} (h:a2B (P:=P) ⟨C.w0,C.hI,C.G,X,b42,C.B,C.K⟩ H ρ w):a2B C H ρ w:=
 ⟨h.below,h.row,h.inj,h.fin,⟨h.maps.row,h.maps.inj,h.maps.there,h.maps.not⟩⟩
open Go
variable {P:Program}
theorem c06.mono {st:St} {f:FuncId} {args:List AV} {R R':AV->Heap->Nat->Prop} (hr:∀ret H T,R ret H T->R' ret H T) (h:c06 P st f args R):c06 P st f args R':=
 ⟨h.1,fun C ρ a w vs q1 q2 q3=>(h.2 C ρ a w vs q1 q2 q3).mono fun e w' ⟨v,e1,ρ',ret,H',T',g1,g2,g3⟩=>⟨v,e1,ρ',ret,H',T',g1,g2,hr _ _ _ g3⟩⟩
section
variable {st:St} {H H':Heap} {T T':Nat} {args:List AV} {k:Nat}
end
def a0z (S:List Id) (H H':Heap):Prop:=∀i,H i≠.a0g->i ∉ S->H' i=H i
theorem a0z.refl (S:List Id) (H:Heap):a0z S H H:=fun _ _ _=>rfl
theorem a0z.set {S:List Id} {H H':Heap} {i:Id} {o:OK} (h:a0z S H H') (hi:H i=.a0g\/i∈S):a0z S H (hset H' i o):=fun j hj hn=>by
 unfold hset
 rw [if_neg ?_]
 ·exact h j hj hn
 ·rintro rfl
  rcases hi with q|q
  ·exact hj q
  ·exact hn q
theorem a0z.get {S:List Id} {H H':Heap} (h:a0z S H H') {i:Id} {e sz:Nat} {f:Bool} {rows:List (List AC)} (hi:H i=.arr e sz f rows) (hn:i ∉ S):H' i=.arr e sz f rows:=by
 rw [h i (by rw [hi];simp) hn,hi]
theorem a0E.set' {H:Heap} {T:Nat} {i:Id} {o:OK} (h:a0E H T) (hi:i.1<T):a0E (hset H i o) T:=h.set (Nat.le_refl _) hi
theorem a0E.not {H:Heap} {T:Nat} (h:a0E H T) {i:Id} (hi:H i≠.a0g):(∀k d,T<=k->((k,d)=i)=False)/\(∀k d,T<=k->(i=(k,d))=False)/\i.1<T:=
 ⟨fun k d hk=>h.nee hi k d hk,fun k d hk=>h.e2v hi k d hk,h.lt hi⟩
theorem a0E.arr {H:Heap} {T:Nat} (h:a0E H T) {i:Id} {e sz:Nat} {f:Bool} {rows:List (List AC)} (hi:H i=.arr e sz f rows):(∀k d,T<=k->((k,d)=i)=False)/\(∀k d,T<=k->(i=(k,d))=False)/\i.1<T:=
 h.not (by rw [hi];simp)
def a3f (S:List Id) (H0:Heap) (T0:Nat) (H:Heap) (T:Nat):Prop:=a0z S H0 H/\a0E H T/\T0<=T/\a0E H0 T0
theorem a3f.refl {S:List Id} {H:Heap} {T:Nat} (h:a0E H T):a3f S H T H T:=⟨a0z.refl S H,h,Nat.le_refl _,h⟩
theorem a3f.tick {S:List Id} {H0 H:Heap} {T0 T T':Nat} (h:a3f S H0 T0 H T) (hT:T<=T'):a3f S H0 T0 H T':=⟨h.1,h.2.1.mono hT,Nat.le_trans h.2.2.1 hT,h.2.2.2⟩
theorem a3f.new {S:List Id} {H0 H:Heap} {T0 T:Nat} {i:Id} {o:OK} (h:a3f S H0 T0 H T) (h0:T0<=i.1) (h1:i.1<T):a3f S H0 T0 (hset H i o) T:=
 ⟨h.1.set (.inl (h.2.2.2 i.1 i.2 h0)),h.2.1.set' h1,h.2.2.1,h.2.2.2⟩
theorem a3f.set {S:List Id} {H0 H:Heap} {T0 T:Nat} {i:Id} {o:OK} (h:a3f S H0 T0 H T) (hi:i∈S) (h1:i.1<T):a3f S H0 T0 (hset H i o) T:=
 ⟨h.1.set (.inr hi),h.2.1.set' h1,h.2.2.1,h.2.2.2⟩
theorem a3f.arr {S:List Id} {H0 H:Heap} {T0 T:Nat} (h:a3f S H0 T0 H T) {i:Id} {e sz:Nat} {f:Bool} {rows:List (List AC)} (hi:H0 i=.arr e sz f rows) (hn:i ∉ S):H i=.arr e sz f rows:=h.1.get hi hn
theorem a3f.fresh {S:List Id} {H0 H:Heap} {T0 T:Nat} (h:a3f S H0 T0 H T):a0E H T:=h.2.1
def a9h {α:Type} [Enc α] (H:Heap) (e sz T0:Nat) (c:AC) (l:List α):Prop:=(c=.raw (.slice none 0 0)/\l=[])\/∃id,c=.so id 0 l.length/\T0<=id.1/\H id=.arr e sz false (a0a l)
theorem a9h.nil {α:Type} [Enc α] {H:Heap} {e sz T0:Nat}:a9h (α:=α) H e sz T0 (.raw (.slice none 0 0)) []:=.inl ⟨rfl,rfl⟩
theorem a9h.so {α:Type} [Enc α] {H:Heap} {e sz T0 n:Nat} {id:Id} {l:List α} (hn:n=l.length) (h0:T0<=id.1) (h:H id=.arr e sz false (a0a l)):a9h H e sz T0 (.so id 0 n) l:=.inr ⟨id,by rw [hn],h0,h⟩
open Go
theorem a3z {P:Program} {F:CT} {x y:SC} {Q:AEx->St->Prop} {st:St} (R:St->Prop) (h1:∀R':St->Prop,(∀s,R s->R' s)->a2S P F x (fun e st'=>e=.normal/\R' st') st) (h2:∀st',R st'->a2S P F y Q st'):a2S P F (.seq x y) Q st:=by
 show a2S P F x (a4C (a2S P F y Q) Q) st
 exact a3y (fun e st' ⟨he,hr⟩=>by subst he;exact h2 _ hr) (h1 R fun _ h=>h)
theorem d0C {P:Program} {F:CT} {x y:SC} {Q:AEx->St->Prop} {st:St} (id:Nat) (R:St->Prop) (h1:∀R':St->Prop,(∀s,R s->R' s)->a2S P F x (fun e st'=>e=.exit id/\R' st') st) (h2:∀st',R st'->Q (.exit id) st'):a2S P F (.seq x y) Q st:=by
 show a2S P F x (a4C (a2S P F y Q) Q) st
 exact a3y (fun e st' ⟨he,hr⟩=>by subst he;exact h2 _ hr) (h1 R fun _ h=>h)
theorem a4X {P:Program} {F:CT} {x y:SC} {Q:AEx->St->Prop} {st:St} (R:St->Prop) (h1:∀R':St->Prop,(∀s,R s->R' s)->a2S P F x (fun e st'=>e=.ret/\R' st') st) (h2:∀st',R st'->Q .ret st'):a2S P F (.seq x y) Q st:=by
 show a2S P F x (a4C (a2S P F y Q) Q) st
 exact a3y (fun e st' ⟨he,hr⟩=>by subst he;exact h2 _ hr) (h1 R fun _ h=>h)
theorem a6I {P:Program} {F:CT} {x:SC} {Q:AEx->St->Prop} {st:St} (I:Nat->St->Prop) (n0:Nat) (h0:I n0 st)
  (h:∀n st',I n st'->∀J:Nat->St->Prop,(∀m s,I m s->J m s)->a2S P F x (a4C (fun f3P=>∃m,m<n/\J m f3P) Q) st'):a2S P F (.loop x) Q st:=
 a1E I n0 h0 fun n st' hi=>h n st' hi I fun _ _ h=>h
open Go
variable {P:Program}
theorem b7B {f:FuncId} {args:List AV} {l:List UInt8} (hok:a4H P f=true) (ha:∀x∈args,∀c∈x.flat,VOK c)
  (h:∀(w:World) (hI:Inv P w) (F:Tag->Nat->Prop) (vs:Array Value),vs.size=args.length->(∀(k:Nat) x,args[k]?=some x->a3u w F a0s a0G x (vs.getD k undef))->
   Calls P f vs w fun e w'=>e=.returned (.string ⟨l.toArray⟩)/\RowKit.Below w.heap.size w w'):PEv P f args (.c (.str l)):=by
 refine ⟨⟨hok,by simp,ha⟩,fun w hI G vs hsz hargs nm inj=>?_⟩
 refine (h w hI _ vs hsz hargs).mono ?_
 rintro e w' ⟨rfl,hb⟩
 refine ⟨_,rfl,a0G,⟨hb,(fun id e sz f rows hid=>by cases hid),(fun id id' e sz rows e' sz' f' rows' b c s c' s' hid=>by cases hid),⟨0,fun _ _ _=>rfl⟩,.none (fun _ _ _ h=>by cases h) (fun _ h=>h.elim) (fun _ _ _ _ _ _ h=>h)⟩,?_⟩
 exact .c _ _ (.str l)
theorem b7C {f:FuncId} {args:List AV} {u:Value} (hok:a4H P f=true) (ha:∀x∈args,∀c∈x.flat,VOK c)
  (h:∀(w:World) (hI:Inv P w) (F:Tag->Nat->Prop) (vs:Array Value),vs.size=args.length->(∀(k:Nat) x,args[k]?=some x->a3u w F a0s a0G x (vs.getD k undef))->
   Calls P f vs w fun e w'=>e=.returned u/\RowKit.Below w.heap.size w w'):PEv P f args (.c (.raw u)):=by
 refine ⟨⟨hok,by simp,ha⟩,fun w hI G vs hsz hargs nm inj=>?_⟩
 refine (h w hI _ vs hsz hargs).mono ?_
 rintro e w' ⟨rfl,hb⟩
 refine ⟨_,rfl,a0G,⟨hb,(fun id e sz f rows hid=>by cases hid),(fun id id' e sz rows e' sz' f' rows' b c s c' s' hid=>by cases hid),⟨0,fun _ _ _=>rfl⟩,.none (fun _ _ _ h=>by cases h) (fun _ h=>h.elim) (fun _ _ _ _ _ _ h=>h)⟩,?_⟩
 exact .c _ _ (.raw u)
theorem vs2 {vs:Array Value} {a b:Value} (hs:vs.size=2) (h0:vs.getD 0 undef=a) (h1:vs.getD 1 undef=b):vs=#[a,b]:=by
 obtain ⟨l⟩:=vs
 match l,hs with
 |[x,y],_=>simp [Array.getD] at h0 h1;rw [h0,h1]
theorem vs1 {vs:Array Value} {a:Value} (hs:vs.size=1) (h0:vs.getD 0 undef=a):vs=#[a]:=by
 obtain ⟨l⟩:=vs
 match l,hs with
 |[x],_=>simp [Array.getD] at h0;rw [h0]
open Go Go.ChangeShapes Go.WideShapes
variable {P:Program}
def b5U (α:Type) [Enc α] (P:Program) (t:TypeId) (S:α->Prop):Prop:=
 ∀{H:Type} (enc:TypeId×Value->H) (w:World) (F:Tag->Nat->Prop) (fuel:Nat) (cs:List Value) (x:DataW H×List MemPlace),(∀b,b<w.heap.size->F .old b)->
  DataW.trod enc P w 0 (fun _=>true) true fuel t cs=some x->
  ∃a:α,cs.length=Enc.w α/\(∀v∈cs,v.oneCell'=true)/\(∀(k:Nat) c,(Enc.row a)[k]?=some c->a03 w F a0s a0G c (cs.getD k undef))/\
   ((x.1.weights P t).all (·<=reachBytes)=true->S a)
theorem a9T {t:TypeId} (ht:P.underlying t=some .string):b5U (List UInt8) P t (fun s=>s.length<=reachBytes):=by
 intro H enc w F fuel cs x hF h
 obtain ⟨s,rfl,rfl,hs⟩:=DataW.trod_string ht h
 refine ⟨s.data.toList,rfl,by simp [Value.oneCell'],fun k c hk=>?_,fun hw=>?_⟩
 ·match k,hk with
  |0,hk=>
   simp at hk
   subst hk
   exact .str s.data.toList
 ·simpa [DataW.weights] using hw
theorem a1s {t:TypeId} (ht:P.underlying t=some (.int .i64)):b5U Int P t (fun n=>-9223372036854775808<=n/\n<=9223372036854775807):=by
 intro H enc w F fuel cs x hF h
 obtain ⟨n,rfl,rfl,hn⟩:=DataW.trod_int ht h
 refine ⟨n,rfl,by simp [Value.oneCell'],fun k c hk=>?_,fun _=>?_⟩
 ·match k,hk with
  |0,hk=>
   simp at hk
   subst hk
   exact .raw _
 ·simp only [Lit.wf,Bool.and_eq_true,decide_eq_true_eq] at hn
  have e1:IntKind.min .i64=-9223372036854775808:=rfl
  have e2:IntKind.max .i64=9223372036854775807:=rfl
  omega
def a9U (α:Type) [Enc α] (P:Program) (t:TypeId) (S:List α->Prop):Prop:=
 ∀{H:Type} (enc:TypeId×Value->H) (w:World) (F:Tag->Nat->Prop) (fuel:Nat) (cs:List Value) (x:DataW H×List MemPlace),(∀b,b<w.heap.size->F .old b)->
  DataW.trod enc P w 0 (fun _=>true) true fuel t cs=some x->
  ∃l:List α,cs.length=1/\(∀v∈cs,v.oneCell'=true)/\a03 w F a0s a0G (.sl .old false (a0a l)) (cs.getD 0 undef)/\
   ((x.1.weights P t).all (·<=reachBytes)=true->S l)
theorem weightsAll_mem {H:Type} {e:TypeId}:∀{l:List (DataW H)} {d:DataW H},d∈l->∀n∈d.weights P e,n∈DataW.weightsAll P e l
 |[],_,h,_,_=>by simp at h
 |d::r,_,h,n,hn=>by
  rcases List.mem_cons.1 h with rfl|h
  ·simp [DataW.weightsAll,hn]
  ·simp [DataW.weightsAll,weightsAll_mem h n hn]
theorem a3K {α:Type} [Enc α] {t e:TypeId} {S:α->Prop} (ht:P.underlying t=some (.slice e)) (he:b5U α P e S) (hc:P.cellsOf e=Enc.w α) (hpos:0<Enc.w α) :
  a9U α P t (fun l=>l.length*P.bytesOf e<=reachBytes/\∀a∈l,S a):=by
 intro H enc w F fuel cs x hF h
 rcases DataW.trod_slice ht h with ⟨rfl,rfl⟩|⟨a,len,cap,elems,rest,n,_,rfl,rfl,hb,hl,hm,hlen,hel,hsp,hns⟩
 ·exact ⟨[],rfl,by simp [Value.oneCell'],.a08 _ _ _ .nil,fun _=>by simp [reachBytes]⟩
 ·
  have each:∀i,i<len->∃(y:α) (cells:List Value) (d:DataW H×List MemPlace),elems[i]?=some d/\w.cells? 0 (a.add (i*P.cellsOf e)) (P.cellsOf e)=some cells/\cells.length=Enc.w α/\(∀v∈cells,v.oneCell'=true)/\
    (∀(k:Nat) c,(Enc.row y)[k]?=some c->a03 w F a0s a0G c (cells.getD k undef))/\((d.1.weights P e).all (·<=reachBytes)=true->S y):=fun i hi=>by
   have h1:=hel i hi
   have h2:i<elems.length:=by omega
   rw [List.getElem?_eq_getElem h2,Option.bind_eq_some_iff] at h1
   obtain ⟨cells,hcells,f3Q⟩:=h1
   obtain ⟨y,g1,g2,g3,g4⟩:=he enc w F n cells elems[i] hF f3Q
   exact ⟨y,cells,elems[i],List.getElem?_eq_getElem h2,hcells,g1,g2,g3,g4⟩
  let ys:List α:=(List.range len).attach.map fun i=>Classical.choose (each i.1 (List.mem_range.1 i.2))
  have hys:ys.length=len:=by simp [ys]
  have hyi:∀i (hi:i<len),ys[i]?=some (Classical.choose (each i hi)):=fun i hi=>by
   simp [ys,hi]
  have spec:=fun i (hi:i<len)=>Classical.choose_spec (each i hi)
  have first:∀cells,w.cells? 0 (a.add 0) (P.cellsOf e)=some cells->a.spot=none/\a.block<w.heap.size:=fun cells hcs=>by
   obtain ⟨_,g1,g2⟩:=World.cells?_some hcs
   have g3:=g2 0 (by omega)
   have e0:(a.add 0).add 0=a:=by simp [Addr.add]
   rw [e0,List.getElem?_eq_getElem (by omega)] at g3
   unfold World.cell? at g3
   split at g3
   ·rename_i c _ _ hb
    split at g3
    ·cases g3
    ·rename_i hs
     exact ⟨by simpa using hs,(Array.getElem?_eq_some_iff.1 hb).1⟩
   ·cases g3
  by_cases h0:len=0
  ·have hy0:ys=[]:=List.eq_nil_of_length_eq_zero (by omega)
   have he0:elems=[]:=List.eq_nil_of_length_eq_zero (by omega)
   have rel:a03 w F a0s a0G (.sl .old false (a0a ([]:List α))) ((([Value.slice (some a) len cap]:List Value)).getD 0 undef):=by
    show a03 w F a0s a0G (.sl .old false []) (.slice (some a) len cap)
    by_cases hc0:cap=0
    ·rw [h0,hc0];exact .a08 _ _ _ (.inr ⟨a,rfl⟩)
    ·obtain ⟨r1,r2⟩:=hsp rfl
     have r3:=r2 0 (by omega)
     rw [List.getElem?_eq_getElem (by omega),Option.bind_eq_some_iff] at r3
     obtain ⟨cells,hcells,_⟩:=r3
     rw [h0] at hcells
     simp only [Nat.add_zero,Nat.zero_mul] at hcells
     obtain ⟨f1,f2⟩:=first cells hcells
     have ea:a=⟨a.block,a.off,none⟩:=by cases a;simp at f1;subst f1;rfl
     rw [h0,ea]
     exact .sl _ _ [] a.block a.off cap 0 (fun _=>undef) f2 (hF _ f2) (by simp) (fun q=>by cases q) (by simp) (by simp) (by simp) (by simp)
   exact ⟨[],rfl,by simp [Value.oneCell'],rel,fun _=>by simp [reachBytes]⟩
  ·obtain ⟨_,e1H,_,_,hc0,_⟩:=each 0 (by omega)
   rw [Nat.zero_mul] at hc0
   obtain ⟨f1,f2⟩:=first e1H hc0
   have ea:a=⟨a.block,a.off,none⟩:=by cases a;simp at f1;subst f1;rfl
   generalize hbb:a.block=b at *
   generalize hoo:a.off=o at *
   clear hbb hoo
   subst ea
   have cellAt:∀i (hi:i<len) j,j<Enc.w α->∃u,w.cell? ⟨b,o+(i*Enc.w α+j),none⟩=some u/\u.oneCell'=true/\∀c,(Enc.row (Classical.choose (each i hi)))[j]?=some c->a03 w F a0s a0G c u:=fun i hi j hj=>by
    obtain ⟨cells,d,g1,g2,g3,g4,g5,g6⟩:=spec i hi
    obtain ⟨_,q1,q2⟩:=World.cells?_some g2
    have q3:=q2 j (by omega)
    rw [Addr.add_lit,Addr.add_lit,hc,List.getElem?_eq_getElem (by omega)] at q3
    refine ⟨cells[j],by rw [<-Nat.add_assoc];exact q3,g4 _ (List.getElem_mem _),fun c hcj=>?_⟩
    have:=g5 j c hcj
    rwa [List.getD_eq_getElem?_getD,List.getElem?_eq_getElem (by omega),Option.getD_some] at this
   have hdm:∀k,k<len*Enc.w α->k/Enc.w α<len/\k%Enc.w α<Enc.w α/\k/Enc.w α*Enc.w α+k%Enc.w α=k:=fun k hk=>
    ⟨Nat.div_lt_of_lt_mul (by rw [Nat.mul_comm];exact hk),Nat.mod_lt _ hpos,by rw [Nat.mul_comm];exact Nat.div_add_mod _ _⟩
   refine ⟨ys,rfl,by simp [Value.oneCell'],?_,fun hw=>?_⟩
   ·show a03 w F a0s a0G (.sl .old false (a0a ys)) (.slice (some ⟨b,o,none⟩) len cap)
    have hrl:(a0a ys).length=len:=by simp [hys]
    have:=a03.sl (w:=w) (F:=F) (H:=a0s) (ρ:=a0G) .old false (a0a ys) b o cap (Enc.w α) (fun k=>(w.cell? ⟨b,o+k,none⟩).getD undef) f2 (hF _ f2) (by omega) (fun q=>by cases q)
     (fun i r hr=>by
      rw [b1g,Option.map_eq_some_iff] at hr
      obtain ⟨y,_,rfl⟩:=hr
      exact Enc.len y)
     (fun k hk=>by
      rw [hrl] at hk
      obtain ⟨d1,d2,d3⟩:=hdm k hk
      obtain ⟨u,u1,_⟩:=cellAt _ d1 _ d2
      rw [d3] at u1
      rw [u1];rfl)
     (fun k hk=>by
      rw [hrl] at hk
      obtain ⟨d1,d2,d3⟩:=hdm k hk
      obtain ⟨u,u1,u2,_⟩:=cellAt _ d1 _ d2
      rw [d3] at u1
      rw [u1];exact u2)
     (fun i j r c hr hcj=>by
      rw [b1g,Option.map_eq_some_iff] at hr
      obtain ⟨y,hy,rfl⟩:=hr
      have hi:i<len:=by have:=(List.getElem?_eq_some_iff.1 hy).1;omega
      rw [hyi i hi] at hy
      cases hy
      have hj:j<Enc.w α:=by have:=(List.getElem?_eq_some_iff.1 hcj).1;rw [Enc.len] at this;exact this
      obtain ⟨u,u1,_,u3⟩:=cellAt i hi j hj
      rw [u1];exact u3 c hcj)
    rwa [hrl] at this
   ·simp only [DataW.weights,ht,List.all_cons,Bool.and_eq_true,decide_eq_true_eq,List.all_append,List.length_map] at hw
    obtain ⟨hw1,hw2,_⟩:=hw
    refine ⟨?_,fun y hy=>?_⟩
    ·rw [hys]
     refine Nat.le_trans (Nat.mul_le_mul_right _ ?_) hw1
     omega
    ·obtain ⟨i,hi,rfl⟩:=List.getElem_of_mem hy
     have hi':i<len:=by omega
     have e1:ys[i]=Classical.choose (each i hi'):=by
      have:=hyi i hi'
      rw [List.getElem?_eq_getElem hi] at this
      exact Option.some.inj this
     rw [e1]
     obtain ⟨cells,d,g1,g2,g3,g4,g5,g6⟩:=spec i hi'
     refine g6 (List.all_eq_true.2 fun n hn=>?_)
     exact List.all_eq_true.1 hw2 n (weightsAll_mem (List.mem_map.2 ⟨d,List.mem_of_getElem? g1,rfl⟩) n hn)
open Go
variable {P:Program}
theorem a8d {f:FuncId} {args:List AV} (hp:PEv P f args (.c (.raw (.bool true)))) {w:World} (hI:Inv P w) {vs:Array Value} (hs:vs.size=args.length)
  (hr:∀(k:Nat) x,args[k]?=some x->a3u w (Fr (Ctx.of w hI fun _ _=>True) a0s a0G) a0s a0G x (vs.getD k undef)) :
  Calls P f vs w fun e w'=>e=.returned (.bool true)/\RowKit.Below w.heap.size w w':=by
 refine (hp.2 w hI (fun _ _=>True) vs hs hr (fun k=>(0,k)) (fun i j h=>by simpa using h)).mono ?_
 rintro e w' ⟨v,rfl,ρ,hH,hR⟩
 have hv:=a0N (a0D hR)
 subst hv
 exact ⟨rfl,hH.below⟩
theorem b1l {w:World} {hI:Inv P w} {t:Tag} {b:Nat} (ht:t≠.new):Fr (Ctx.of w hI fun _ _=>True) a0s a0G t b:=
 ⟨⟨.inr ⟨ht,trivial⟩,fun h=>h⟩,fun ⟨_,_,_,h,_⟩=>by cases h⟩
open Go
variable {P:Program}
theorem b2B {b:Nat}:¬Mut a0s a0G b:=fun ⟨_,_,_,h,_⟩=>by cases h
theorem d6z {C:Ctx P} {H:Heap} {ρ:Lies} {w:World} {id:Id} {v:Value} {e sz:Nat} {xs:List (List AC)} (hH:a2B C H ρ w) (h:a03 w (Fr C H ρ) H ρ (.so id 0 xs.length) v) (hid:H id=.arr e sz false xs)
  (hr:∀r∈xs,∀c∈r,a1Y c):a03 w (Fr C a0s a0G) a0s a0G (.sl .new false xs) v:=by
 have hrows:rowsOf H (.so id 0 xs.length)=some xs:=by simp [rowsOf,hid]
 have hin:∀c u,a1Y c->a03 w (Fr C H ρ) H ρ c u->a03 w (Fr C a0s a0G) a0s a0G c u:=fun c u hc hu=>hu.b46 hc fun t b _ hb=>⟨hb.1,b2B⟩
 have hs:a2j ρ id 0 xs.length v:=by
  cases h with
  |so _ _ _ _ hk hs=>exact hs (by rw [hid];rfl)
 unfold a2j at hs
 rcases (hH.row id e sz false xs hid).lies with ⟨q1,q2⟩|⟨b',cap',cur,q1,q0,q3,_⟩
 ·rw [q1] at hs;subst q2;exact .a08 _ _ _ hs.2.2
 ·rw [q1] at hs
  obtain ⟨o'',he,_⟩:=hs
  have hb:b'<w.heap.size:=q3.lt
  rcases a2R hH h hrows with ⟨hn,rfl⟩|⟨b,o',cap,sz',rfl,g1,g2,g3⟩
  ·exact .a08 _ _ _ hn
  ·cases he
   obtain ⟨news,n1,n2,n3,n4⟩:=a3v g1 g3
   have hbl:∀k,k<xs.length*sz'->∃u,w.cell? ⟨b',o''+k,none⟩=some u/\news[k]?=some u:=fun k hk=>by
    have:k<news.length:=by omega
    have h1:=n2 k news[k] (List.getElem?_eq_getElem this)
    rw [Addr.add_lit] at h1
    exact ⟨_,h1,List.getElem?_eq_getElem this⟩
   refine .sl _ _ xs b' o'' _ sz' (fun k=>news.getD k undef) hb ⟨⟨.inl q0,hH.maps.not id b' cap' sz (by rw [hid];rfl) q1⟩,b2B⟩ g2 (fun e=>by cases e) (fun i r hi=>g1 r (List.mem_of_getElem? hi)) (fun k hk=>?_) (fun k hk=>?_) (fun i j r c hi hj=>?_)
   ·obtain ⟨u,u1,u2⟩:=hbl k hk
    rw [u1];simp [List.getD,u2]
   ·obtain ⟨u,u1,u2⟩:=hbl k hk
    have:news.getD k undef=u:=by simp [List.getD,u2]
    rw [this];exact n3 u (List.mem_of_getElem? u2)
   ·obtain ⟨u,u1,u2,u3⟩:=n4 i j r c hi hj
    have:news.getD (i*sz'+j) undef=u:=by simp [List.getD,u1]
    rw [this]
    exact hin _ _ (hr r (List.mem_of_getElem? hi) c (List.mem_of_getElem? hj)) u3
def b2C (t:Tag):AC->AC
 |.nw _ _ xs=>.sl t false xs
 |c=>c
def AV.frz (t:Tag):AV->AV
 |.c x=>.c (b2C t x)
 |.g xs=>.g (xs.map (b2C t))
 |.t ps=>.t (ps.map fun q=>(q.1,q.2.map (b2C t)))
@[simp] theorem e76 {t:Tag} {e sz:Nat} {xs:List (List AC)}:b2C t (.nw e sz xs)=.sl t false xs:=rfl
@[simp] theorem e2K {t:Tag} {v:Value}:b2C t (.raw v)=.raw v:=rfl
@[simp] theorem e2L {t:Tag} {l:List UInt8}:b2C t (.str l)=.str l:=rfl
@[simp] theorem e77 {t t':Tag} {cl:Bool} {xs:List (List AC)}:b2C t (.sl t' cl xs)=.sl t' cl xs:=rfl
theorem b5V {t:Tag}:∀ps:List (Bool×List AC),a3q (ps.map fun q=>(q.1,q.2.map (b2C t)))=(a3q ps).map (b2C t)
 |[]=>rfl
 |(b,cs)::r=>by simp [a3q,b5V r]
theorem b93 {t:Tag} (v:AV):(v.frz t).flat=v.flat.map (b2C t):=by
 cases v with
 |c x=>rfl
 |g xs=>rfl
 |t ps=>exact b5V ps
theorem c3s {t:Tag} {nm:Nat->Id} {k:Nat} {c:AC}:adC nm k (b2C t c)=b2C t c:=by cases c<;>rfl
theorem b7D {t:Tag} {nm:Nat->Id}:∀(cs:List AC) (k:Nat),adL nm k (cs.map (b2C t))=cs.map (b2C t)
 |[],_=>rfl
 |c::cs,k=>by simp [adL,c3s,b7D cs]
theorem c3t {t:Tag} {nm:Nat->Id}:∀(ps:List (Bool×List AC)) (k:Nat),adT nm k (ps.map fun q=>(q.1,q.2.map (b2C t)))=ps.map fun q=>(q.1,q.2.map (b2C t))
 |[],_=>rfl
 |(b,cs)::r,k=>by simp [adT,b7D,c3t r]
theorem d6A {t:Tag} {nm:Nat->Id} (v:AV):(v.frz t).ad nm=v.frz t:=by
 cases v with
 |c x=>simp [AV.frz,AV.ad,c3s]
 |g xs=>simp [AV.frz,AV.ad,b7D]
 |t ps=>simp [AV.frz,AV.ad,c3t]
theorem c3u {t:Tag} {nm:Nat->Id} {H:Heap}:∀(cs:List AC) (k:Nat),adH nm k (cs.map (b2C t)) H=H
 |[],_=>rfl
 |c::cs,k=>by
  simp only [List.map_cons,adH]
  have:b7b (nm k) (b2C t c) H=H:=by cases c<;>rfl
  rw [this,c3u cs]
theorem b5W {nm:Nat->Id}:∀(cs:List AC) (k j:Nat),(adL nm k cs)[j]?=(cs[j]?).map (adC nm (k+j))
 |[],_,_=>by simp [adL]
 |c::cs,k,0=>by simp [adL]
 |c::cs,k,j+1=>by
  simp only [adL,List.getElem?_cons_succ]
  rw [b5W cs]
  congr 2
  omega
theorem a9V {nm:Nat->Id}:∀(cs:List AC) (k:Nat),(adL nm k cs).length=cs.length
 |[],_=>rfl
 |c::cs,k=>by simp [adL,a9V cs]
theorem PEv.frz {f:FuncId} {args:List AV} {ret:AV} (t:Tag) (ht:t≠.brw) (h:PEv P f args ret):PEv P f args (ret.frz t):=by
 obtain ⟨⟨h1,h2,h3⟩,h4⟩:=h
 refine ⟨⟨h1,?_,h3⟩,fun w hI G vs hs hr nm inj=>(h4 w hI G vs hs hr nm inj).mono ?_⟩
 ·intro c hc
  rw [b93,List.mem_map] at hc
  obtain ⟨d,hd,rfl⟩:=hc
  have:=h2 d hd
  cases d with
  |nw e sz xs=>exact .sl _ _ _ ht this
  |_=>exact this
 ·rintro e w' ⟨v,rfl,ρ,hH,hR⟩
  refine ⟨v,rfl,a0G,?_⟩
  rw [b93,c3u,d6A]
  refine ⟨⟨hH.below,(fun id e sz f rows h=>by cases h),(fun id id' e sz rows e' sz' f3B rows' b c s c' s' h=>by cases h),⟨0,fun _ _ _=>rfl⟩,.none (fun _ _ _ h=>by cases h) (fun _ h=>h.elim) (fun _ _ _ _ _ _ h=>h)⟩,?_⟩
  have cell:∀(j:Nat) c u,ret.flat[j]?=some c->a03 w' (Fr (Ctx.of w hI G) (adH nm 0 ret.flat a0s) ρ) (adH nm 0 ret.flat a0s) ρ (adC nm j c) u->a03 w' (Fr (Ctx.of w hI G) a0s a0G) a0s a0G (b2C t c) u:=fun j c u hj hu=>by
   have hc:=h2 c (List.mem_of_getElem? hj)
   have keep:a1Y c->a03 w' (Fr (Ctx.of w hI G) (adH nm 0 ret.flat a0s) ρ) (adH nm 0 ret.flat a0s) ρ c u->a03 w' (Fr (Ctx.of w hI G) a0s a0G) a0s a0G c u:=fun hc hu=>
    hu.b46 hc fun t b _ hb=>⟨hb.1,b2B⟩
   cases c with
   |nw e sz xs=>
    have hid:adH nm 0 ret.flat a0s (nm j)=.arr e sz false xs:=by
     rcases a4W nm ret.flat 0 a0s (nm j) inj with ⟨j',e',sz',xs',g1,g2,g3⟩|⟨g1,_⟩
     ·have:=inj _ _ g2
      rw [Nat.zero_add] at this
      subst this
      rw [hj] at g1
      cases g1
      exact g3
     ·exact (g1 j e sz xs hj (by rw [Nat.zero_add])).elim
    have:=d6z hH hu hid hc
    cases this with
    |a08 _ _ _ h=>exact .a08 _ _ _ h
    |sl _ _ _ b o cap sz vs hb hf hcap hcl hr hcell hone hrel=>
     refine .sl t false xs b o cap sz vs hb ⟨⟨?_,hf.1.2⟩,hf.2⟩ hcap (fun e=>by cases e) hr hcell hone hrel
     rcases hf.1.1 with q|⟨q,_⟩
     ·exact .inl q
     ·exact (q rfl).elim
   |_=>exact keep hc hu
  cases ret with
  |c x=>
   cases hR with
   |c _ _ hx=>exact .c _ _ (cell 0 x _ rfl hx)
  |g xs=>
   cases hR with
   |g _ vs hl hx=>
    refine .g _ _ (by rw [a9V] at hl;simpa using hl) fun k c hk=>?_
    rw [List.getElem?_map,Option.map_eq_some_iff] at hk
    obtain ⟨d,hd,rfl⟩:=hk
    exact cell k d _ hd (hx k _ (by rw [b5W,hd,Nat.zero_add];rfl))
  |t ps=>
   cases hR with
   |t _ vs hl hx=>
    have len:∀(ps:List (Bool×List AC)) (k:Nat),(adT nm k ps).length=ps.length:=fun ps=>by
     induction ps with
     |nil=>intro k;rfl
     |cons q r ih=>intro k;obtain ⟨b,cs⟩:=q;simp [adT,ih]
    have at_:∀(ps:List (Bool×List AC)) (k j:Nat) b cs,ps[j]?=some (b,cs)->∃o,(adT nm k ps)[j]?=some (b,adL nm (k+o) cs)/\∀(i:Nat) c,cs[i]?=some c->(a3q ps)[o+i]?=some c:=fun ps=>by
     induction ps with
     |nil=>intro k j b cs h;simp at h
     |cons q r ih=>
      intro k j b cs h
      obtain ⟨b0,cs0⟩:=q
      cases j with
      |zero=>
       simp at h
       obtain ⟨rfl,rfl⟩:=h
       refine ⟨0,by simp [adT],fun i c hi=>?_⟩
       simp only [a3q,Nat.zero_add]
       rw [List.getElem?_append_left (List.getElem?_eq_some_iff.1 hi).1]
       exact hi
      |succ j=>
       obtain ⟨o,o1,o2⟩:=ih (k+cs0.length) j b cs (by simpa using h)
       refine ⟨cs0.length+o,by simp only [adT,List.getElem?_cons_succ];rw [o1];congr 3;omega,fun i c hi=>?_⟩
       simp only [a3q]
       rw [List.getElem?_append_right (by omega),show cs0.length+o+i-cs0.length=o+i from by omega]
       exact o2 i c hi
    refine .t _ _ (by rw [len] at hl;simpa using hl) fun k b cs hk=>?_
    rw [List.getElem?_map,Option.map_eq_some_iff] at hk
    obtain ⟨⟨b0,cs0⟩,hd,he⟩:=hk
    simp only [Prod.mk.injEq] at he
    obtain ⟨rfl,rfl⟩:=he
    obtain ⟨o,o1,o2⟩:=at_ ps 0 k b0 cs0 hd
    rw [Nat.zero_add] at o1
    have:=hx k b0 _ o1
    generalize hu:vs.getD k undef=u at this
    generalize hcs:adL nm o cs0=cs1 at this
    cases this with
    |c x _ hx=>
     match cs0,hcs with
     |[c0],hcs=>
      simp [adL] at hcs
      subst hcs
      exact .c _ _ (cell o c0 _ (o2 0 c0 rfl) hx)
     |[],hcs=>simp [adL] at hcs
     |_::_::_,hcs=>simp [adL] at hcs
    |g _ us hlu hu=>
     subst hcs
     refine .g _ _ (by rw [a9V] at hlu;simpa using hlu) fun i c hi=>?_
     rw [List.getElem?_map,Option.map_eq_some_iff] at hi
     obtain ⟨d,hd,rfl⟩:=hi
     exact cell (o+i) d _ (o2 i d hd) (hu i _ (by rw [b5W,hd];rfl))
open Go
variable {P:Program}
inductive idD (id:Id):AC->Prop where
 |so (off len:Nat):idD id (.so id off len)
 |pt (i j:Nat):idD id (.pt id i j)
 |mr:idD id (.mr id)
 |fn (f:FuncId) (caps:List AC) (c:AC) (hc:c∈caps) (h:idD id c):idD id (.fn f caps)
 |sl (t:Tag) (cl:Bool) (xs:List (List AC)) (r:List AC) (c:AC) (hr:r∈xs) (hc:c∈r) (h:idD id c):idD id (.sl t cl xs)
 |pv (t:Tag) (row:List AC) (j:Nat) (c:AC) (hc:c∈row) (h:idD id c):idD id (.pv t row j)
theorem a03.d6B {w:World} {F:Tag->Nat->Prop} {H:Heap} {ρ:Lies} {c:AC} {v:Value} (h:a03 w F H ρ c v) {id:Id} (hi:idD id c):H id≠.a0g:=by
 induction h with
 |raw v=>cases hi
 |str l=>cases hi
 |a0x v=>cases hi
 |a08 t cl v h=>cases hi with|sl _ _ _ r c hr hc h=>simp at hr
 |sl t cl xs b o cap sz vs hb hF hcap hcl hrow hcell hone hrel ih=>
  cases hi with
  |sl _ _ _ r c hr hc h=>
   obtain ⟨i,hi⟩:=List.getElem?_of_mem hr
   obtain ⟨j,hj⟩:=List.getElem?_of_mem hc
   exact ih i j r c hi hj h
 |so id off len v hk h=>cases hi;exact hk
 |mr id v hk h=>cases hi;exact hk
 |pt id i j v hk h=>cases hi;exact hk
 |pv t row j b o vs hb hF hcell hrel ih=>
  cases hi with
  |pv _ _ _ c hc h=>
   obtain ⟨k,hk⟩:=List.getElem?_of_mem hc
   exact ih k c hk h
 |fn f caps vs hl h ih=>
  cases hi with
  |fn _ _ c hc h=>
   obtain ⟨k,hk⟩:=List.getElem?_of_mem hc
   exact ih k c hk h
theorem a03.sub {w:World} {F F':Tag->Nat->Prop} {H H':Heap} {ρ ρ':Lies} {c:AC} {v:Value} (h:a03 w F H ρ c v)
  (hid:∀id,idD id c->H' id≠.a0g/\((H' id).live=true->(H id).live=true/\ρ' id=ρ id)) (hF:∀t b,F t b->F' t b):a03 w F' H' ρ' c v:=by
 induction h with
 |raw v=>exact .raw v
 |str l=>exact .str l
 |a0x v=>exact .a0x v
 |a08 t cl v h=>exact .a08 t cl v h
 |sl t cl xs b o cap sz vs hb hf hcap hcl hrow hcell hone hrel ih=>
  exact .sl t cl xs b o cap sz vs hb (hF _ _ hf) hcap hcl hrow hcell hone fun i j r c hi hj=>ih i j r c hi hj fun id h=>hid id (.sl _ _ _ r c (List.mem_of_getElem? hi) (List.mem_of_getElem? hj) h)
 |so id off len v hk h=>
  obtain ⟨h1,h2⟩:=hid id (.so _ _)
  exact .so id off len v h1 fun hl=>by
   obtain ⟨h3,h4⟩:=h2 hl
   have:=h h3
   unfold a2j at *
   rw [h4];exact this
 |pt id i j v hk h=>
  obtain ⟨h1,h2⟩:=hid id (.pt _ _)
  exact .pt id i j v h1 fun hl=>by
   obtain ⟨h3,h4⟩:=h2 hl
   obtain ⟨b,cap,sz,h5,h6⟩:=h h3
   exact ⟨b,cap,sz,by rw [h4];exact h5,h6⟩
 |mr id v hk h=>
  obtain ⟨h1,h2⟩:=hid id .mr
  exact .mr id v h1 fun hl=>by
   obtain ⟨h3,h4⟩:=h2 hl
   obtain ⟨b,cap,sz,h5,h6⟩:=h h3
   exact ⟨b,cap,sz,by rw [h4];exact h5,h6⟩
 |pv t row j b o vs hb hf hcell hrel ih=>
  exact .pv t row j b o vs hb (hF _ _ hf) hcell fun k c hk=>ih k c hk fun id h=>hid id (.pv _ _ _ c (List.mem_of_getElem? hk) h)
 |fn f caps vs hl h ih=>exact .fn f caps vs hl fun k c hk=>ih k c hk fun id h=>hid id (.fn _ _ c (List.mem_of_getElem? hk) h)
theorem a13.trans {w w' w'':World} {F F' F'':Tag->Nat->Prop} {H H' H'':Heap} {ρ ρ' ρ'':Lies} (h:a13 w w' F F' H H' ρ ρ') (h':a13 w' w'' F' F'' H' H'' ρ' ρ''):a13 w w'' F F'' H H'' ρ ρ'':=by
 refine ⟨Nat.le_trans h.size h'.size,fun t b hf hb=>?_,fun id hi=>?_⟩
 ·obtain ⟨h1,h2⟩:=h.blk t b hf hb
  obtain ⟨h3,h4⟩:=h'.blk t b h1 (Nat.lt_of_lt_of_le hb h.size)
  exact ⟨h3,h4.trans h2⟩
 ·obtain ⟨h1,h2⟩:=h.obj id hi
  obtain ⟨h3,h4⟩:=h'.obj id h1
  exact ⟨h3,fun l=>by
   obtain ⟨h5,h6⟩:=h4 l
   obtain ⟨h7,h8⟩:=h2 h5
   exact ⟨h7,h6.trans h8⟩⟩
theorem b5X:∀{cs:List AC} {k:Nat} {id:Id} {off len:Nat},cs[k]?=some (.so id off len)->id∈a2u cs
 |c::cs,0,id,off,len,h=>by simp at h;subst h;simp [a2u]
 |c::cs,k+1,id,off,len,h=>by
  have:=b5X (cs:=cs) (k:=k) (by simpa using h)
  cases c<;>simp [a2u,this]
theorem gc {C:Ctx P} {w0 w:World} {st:St} {a:Act} {ρ0 ρ:Lies} {Hf:Heap} (h0:Rel C ρ0 st a w0) (h1:a2B C Hf ρ w) (k:a13 w0 w (Fr C st.H ρ0) (Fr C Hf ρ) st.H Hf ρ0 ρ)
  {res ret:AV} {v:Value} (hv:a3u w (Fr C Hf ρ) Hf ρ res v) (hret:∀c∈ret.flat,b0J c) (hex:exV Hf res ret) (hnd:(a2u res.flat).Nodup) (hnew:∀id∈a2u res.flat,st.H id=.a0g)
  (nm:Nat->Id) (inj:∀i j,nm i=nm j->i=j) (hun:a6Q nm st.H 0 ret.flat) {us:List (Id×OK)} (hus:∀i,st.H i≠.a0g->Hf i=upH st.H us i) (hub:∀q∈us,q.2≠.a0g/\st.H q.1≠.a0g) (hnp:∀q∈us,∀ag es,q.2≠.mp ag es)
  (hcl:∀q∈us,∀e sz f rows,q.2=.arr e sz f rows->∀r∈rows,∀c∈r,∀id,idD id c->st.H id≠.a0g) :
  ∃ρ',Rel C ρ' {st with H:=adH nm 0 ret.flat (upH st.H us)} a w/\a3u w (Fr C (adH nm 0 ret.flat (upH st.H us)) ρ') (adH nm 0 ret.flat (upH st.H us)) ρ' (ret.ad nm) v:=by
 obtain ⟨hlen,hcell⟩:=a5R (b9S hex)
 generalize hHb:upH st.H us=Hb at hus
 have hbN:∀i,Hb i=(upN us i).getD (st.H i):=fun i=>by rw [<-hHb,b7q]
 have hbb:∀i,Hb i≠.a0g↔st.H i≠.a0g:=fun i=>by
  rw [hbN]
  cases hu:upN us i with
  |none=>simp
  |some ob=>simpa [(hub _ (a8a hu)).1] using (hub _ (a8a hu)).2
 let a15:AC->Option (Nat×Nat×Nat):=fun c=>match c with
  |.so id _ _=>ρ id
  |_=>none
 have hdec:∀i:Id,Decidable (∃k,i=nm k/\∃e sz xs,ret.flat[k]?=some (.nw e sz xs)):=fun i=>Classical.propDecidable _
 let ρ':Lies:=fun i=>if hk:∃k,i=nm k/\∃e sz xs,ret.flat[k]?=some (.nw e sz xs) then a15 ((res.flat)[Classical.choose hk]?.getD .a0x) else ρ i
 have hρ':∀k e sz xs,ret.flat[k]?=some (.nw e sz xs)->ρ' (nm k)=a15 ((res.flat)[k]?.getD .a0x):=fun k e sz xs hx=>by
  have hk:∃k',nm k=nm k'/\∃e sz xs,ret.flat[k']?=some (.nw e sz xs):=⟨k,rfl,e,sz,xs,hx⟩
  have:Classical.choose hk=k:=inj _ _ (Classical.choose_spec hk).1.symm
  simp only [ρ']
  rw [dif_pos hk,this]
 have hρo:∀i,(∀k e sz xs,ret.flat[k]?=some (.nw e sz xs)->i≠nm k)->ρ' i=ρ i:=fun i hn=>by
  simp only [ρ']
  rw [dif_neg]
  rintro ⟨k,hk,e,sz,xs,hx⟩
  exact hn k e sz xs hx hk
 have nmU:∀k e sz xs,ret.flat[k]?=some (.nw e sz xs)->st.H (nm k)=.a0g:=fun k e sz xs hx=>by
  have:=b2l nm ret.flat 0 st.H hun k e sz xs hx
  rwa [Nat.zero_add] at this
 have old:∀i,st.H i≠.a0g->∀k e sz xs,ret.flat[k]?=some (.nw e sz xs)->i≠nm k:=fun i hi k e sz xs hx he=>hi (by rw [he];exact nmU k e sz xs hx)
 generalize hHD:adH nm 0 ret.flat Hb=HD
 have look:∀id,(∃k e sz xs,ret.flat[k]?=some (.nw e sz xs)/\id=nm k/\HD id=.arr e sz false xs)\/((∀k e sz xs,ret.flat[k]?=some (.nw e sz xs)->id≠nm k)/\HD id=Hb id):=fun id=>by
  rw [<-hHD]
  rcases a4W nm ret.flat 0 Hb id inj with ⟨j,e,sz,xs,q1,q2,q3⟩|⟨q1,q2⟩
  ·exact .inl ⟨j,e,sz,xs,q1,by rwa [Nat.zero_add] at q2,q3⟩
  ·exact .inr ⟨fun k e sz xs hx=>by have:=q1 k e sz xs hx;rwa [Nat.zero_add] at this,q2⟩
 have hold:∀i,st.H i≠.a0g->HD i=Hf i/\ρ' i=ρ i:=fun i hi=>by
  rcases look i with ⟨k,e,sz,xs,q1,q2,_⟩|⟨q1,q2⟩
  ·exact (old i hi k e sz xs q1 q2).elim
  ·exact ⟨by rw [q2];exact (hus i hi).symm,hρo i q1⟩
 have arr:∀id e sz f rows,HD id=.arr e sz f rows->
   (f=false/\∃k,ret.flat[k]?=some (.nw e sz rows)/\id=nm k/\
    ((rows=[]/\ρ' id=none)\/∃id0 n,res.flat[k]?=some (.so id0 0 n)/\Hf id0=.arr e sz false rows/\n=rows.length/\ρ' id=ρ id0))\/
   (st.H id≠.a0g/\Hf id=.arr e sz f rows/\ρ' id=ρ id):=fun id e sz f rows hid=>by
  rcases look id with ⟨k,e',sz',xs',hk,rfl,h3⟩|⟨q1,q2⟩
  ·rw [hid] at h3
   cases h3
   refine .inl ⟨rfl,k,hk,rfl,?_⟩
   obtain ⟨c,hc,hx⟩:=hcell k _ hk
   have hr:=hρ' k _ _ _ hk
   rw [hc] at hr
   simp only [Option.getD_some] at hr
   unfold exC at hx
   split at hx
   ·rename_i id0 off len e' sz' rows' heq
    cases heq
    obtain ⟨rfl,h1,h2⟩:=hx
    exact .inr ⟨id0,len,hc,h1,h2,by rw [hr]⟩
   ·rename_i heq;cases heq
   ·rename_i e' sz' rows' heq
    cases heq
    exact .inl ⟨hx,by rw [hr]⟩
   ·rename_i heq;cases heq
   ·rename_i heq;cases heq
   ·rename_i heq;cases heq
   ·rename_i heq;cases heq
   ·exact hx.elim
  ·have hb:st.H id≠.a0g:=(hbb id).1 (by rw [<-q2,hid];simp)
   obtain ⟨g1,g2⟩:=hold id hb
   exact .inr ⟨hb,by rw [<-g1];exact hid,g2⟩
 have mpo:∀id ag es,HD id=.mp ag es->st.H id≠.a0g/\Hf id=.mp ag es/\ρ' id=ρ id:=fun id ag es hid=>by
  rcases look id with ⟨k,e',sz',xs',hk,rfl,h3⟩|⟨q1,q2⟩
  ·rw [hid] at h3;cases h3
  ·have hb:st.H id≠.a0g:=(hbb id).1 (by rw [<-q2,hid];simp)
   obtain ⟨g1,g2⟩:=hold id hb
   exact ⟨hb,by rw [<-g1];exact hid,g2⟩
 have e1D:∀b,Mut HD ρ' b->Mut Hf ρ b:=fun b m=>by
  rcases a3Q m with ⟨id,e,sz,rows,cap,s,hid,hρ⟩|⟨id,ag,es,cap,s,hid,hρ⟩
  rotate_left
  ·obtain ⟨_,g1,g2⟩:=mpo id ag es hid
   exact b49 g1 (by rw [<-g2];exact hρ)
  rcases arr id e sz false rows hid with ⟨_,k,hk,rfl,h2⟩|⟨h2,h3,h4⟩
  ·rcases h2 with ⟨_,h2⟩|⟨id0,n,h2,h3,h4,h5⟩
   ·rw [h2] at hρ;cases hρ
   ·exact a6N h3 (by rw [<-h5];exact hρ)
  ·exact a6N h3 (by rw [<-h4];exact hρ)
 have hF:∀t b,Fr C Hf ρ t b->Fr C HD ρ' t b:=fun t b hf=>⟨hf.1,fun m=>hf.2 (e1D b m)⟩
 have hF':∀t b,t≠.brw->Fr C Hf ρ t b->Fr C HD ρ' t b:=fun t b _ hf=>hF t b hf
 have f5T:∀c u,(∀id,idD id c->st.H id≠.a0g)->a03 w (Fr C Hf ρ) Hf ρ c u->a03 w (Fr C HD ρ') HD ρ' c u:=fun c u hc hu=>
  hu.sub (fun id hi=>by
   obtain ⟨g1,g2⟩:=hold id (hc id hi)
   refine ⟨?_,fun hl=>⟨by rw [<-g1];exact hl,g2⟩⟩
   rw [g1]
   exact (k.obj id (hc id hi)).1) hF
 have c5U:∀id e sz f rows,HD id=.arr e sz f rows->Row w (Fr C HD ρ') HD ρ' C.p id e sz rows:=fun id e sz f rows hid=>by
  rcases arr id e sz f rows hid with ⟨_,k,hk,rfl,h2⟩|⟨h2,h3,h4⟩
  ·have hrc:b0J (.nw e sz rows):=hret _ (List.mem_of_getElem? hk)
   rcases h2 with ⟨rfl,h2⟩|⟨id0,n,h2,h3,h4,h5⟩
   ·exact ⟨by simp,.inl ⟨h2,rfl⟩⟩
   ·have hr:=h1.row id0 e sz false rows h3
    refine ⟨hr.a3p,?_⟩
    rcases hr.lies with ⟨q1,q2⟩|⟨b,cap,cur,q1,q2,q3,q4,q5,q6,q7⟩
    ·exact .inl ⟨by rw [h5];exact q1,q2⟩
    ·refine .inr ⟨b,cap,cur,by rw [h5];exact q1,q2,q3,q4,q5,q6,fun i j r c hi hj=>?_⟩
     obtain ⟨u,u1,u2,u3⟩:=q7 i j r c hi hj
     exact ⟨u,u1,u2,u3.b46 (hrc r (List.mem_of_getElem? hi) c (List.mem_of_getElem? hj)) hF'⟩
  ·have hr:=h1.row id e sz f rows h3
   refine ⟨hr.a3p,?_⟩
   rcases hr.lies with ⟨q1,q2⟩|⟨b,cap,cur,q1,q2,q3,q4,q5,q6,q7⟩
   ·exact .inl ⟨by rw [h4];exact q1,q2⟩
   ·refine .inr ⟨b,cap,cur,by rw [h4];exact q1,q2,q3,q4,q5,q6,fun i j r c hi hj=>?_⟩
    obtain ⟨u,u1,u2,u3⟩:=q7 i j r c hi hj
    refine ⟨u,u1,u2,f5T c u (fun id' c8B=>?_) u3⟩
    have c5W:Hb id=.arr e sz f rows:=by rw [<-hus id h2];exact h3
    rw [hbN] at c5W
    cases hu:upN us id with
    |some ob=>
     rw [hu] at c5W
     exact hcl _ (a8a hu) e sz f rows c5W r (List.mem_of_getElem? hi) c (List.mem_of_getElem? hj) id' c8B
    |none=>
     rw [hu] at c5W
     have hr0:=h0.heap.row id e sz f rows c5W
     rcases hr0.lies with ⟨_,p2⟩|⟨_,_,_,_,_,_,_,_,_,p7⟩
     ·rw [p2] at hi;simp at hi
     ·obtain ⟨u',_,_,u3'⟩:=p7 i j r c hi hj
      exact u3'.d6B c8B
 have hk:a13 w0 w (Fr C st.H ρ0) (Fr C HD ρ') st.H HD ρ0 ρ':=by
  refine ⟨k.size,fun t b hf hb=>?_,fun id hi=>?_⟩
  ·obtain ⟨g1,g2⟩:=k.blk t b hf hb
   exact ⟨hF t b g1,g2⟩
  ·obtain ⟨g1,g2⟩:=hold id hi
   obtain ⟨g3,g4⟩:=k.obj id hi
   exact ⟨by rw [g1];exact g3,fun hl=>by
    obtain ⟨g5,g6⟩:=g4 (by rw [<-g1];exact hl)
    exact ⟨g5,g2.trans g6⟩⟩
 have soU:∀(k:Nat) id off len,res.flat[k]?=some (.so id off len)->st.H id=.a0g:=fun k id off len h=>hnew id (b5X h)
 have b43:∀(k:Nat) d c u,ret.flat[k]?=some d->res.flat[k]?=some c->exC Hf c d->a03 w (Fr C Hf ρ) Hf ρ c u->a03 w (Fr C HD ρ') HD ρ' (adC nm k d) u:=fun k d c u hk hc hx hu=>by
  have hrc:=hret d (List.mem_of_getElem? hk)
  have hr:∀e sz xs,d=.nw e sz xs->ρ' (nm k)=a15 c:=fun e sz xs hd=>by
   have:=hρ' k e sz xs (by rw [hk,hd])
   rw [hc] at this
   exact this
  have hun:∀e sz rows,d=.nw e sz rows->HD (nm k)≠.a0g:=fun e sz rows hd=>by
   rcases look (nm k) with ⟨j',e',sz',xs',h1,h2,h3⟩|⟨h1,_⟩
   ·rw [h3];simp
   ·exact (h1 k e sz rows (by rw [hk,hd]) rfl).elim
  unfold exC at hx
  split at hx
  ·rename_i id off len e sz rows
   obtain ⟨rfl,h1,h2⟩:=hx
   simp only [adC]
   cases hu with
   |so _ _ _ _ hne hs=>
    have hs:=hs (by rw [h1];rfl)
    refine .so _ _ _ _ (hun _ _ _ rfl) fun _=>?_
    unfold a2j at *
    rw [hr _ _ _ rfl]
    subst h2
    exact hs
  ·rename_i id off len t cl rows
   obtain ⟨ht,rfl,hrows⟩:=hx
   simp only [adC]
   have live:∃e sz f rs,Hf id=.arr e sz f rs:=by
    simp only [rowsOf] at hrows
    split at hrows
    ·rename_i e sz f rs hid;exact ⟨e,sz,f,rs,hid⟩
    ·cases hrows
   obtain ⟨e0,sz0,f0,rs0,b0H⟩:=live
   rcases a2R h1 hu hrows with ⟨hn,rfl⟩|⟨b,o',cap,sz,rfl,g1,g2,g3⟩
   ·exact .a08 _ _ _ hn
   ·have hz:(rows=[]/\b60 (.slice (some ⟨b,o',none⟩) rows.length cap))\/ρ id≠none:=by
     by_cases hz:ρ id=none
     ·left
      rcases (h1.row id e0 sz0 f0 rs0 b0H).lies with ⟨q1,q2⟩|⟨b',cap',cur,q1,q2,q3,_⟩
      ·subst q2
       cases hu with
       |so _ _ _ _ hne hs=>
        have hs:=hs (by rw [b0H];rfl)
        unfold a2j at hs
        rw [q1] at hs
        refine ⟨?_,hs.2.2⟩
        simp only [rowsOf,b0H] at hrows
        split at hrows
        ·cases hrows;simp
        ·cases hrows
      ·rw [hz] at q1;cases q1
     ·exact .inr hz
    rcases hz with ⟨rfl,hz⟩|hz
    ·exact .a08 _ _ _ hz
    have hbl:b<w.heap.size/\C.p<=b/\∃c s,ρ id=some (b,c,s):=by
     cases hu with
     |so _ _ _ _ hne hs=>
      have hs:=hs (by rw [b0H];rfl)
      unfold a2j at hs
      rcases (h1.row id e0 sz0 f0 rs0 b0H).lies with ⟨q1,_⟩|⟨b',cap',cur,q1,q2,q3,_⟩
      ·exact (hz q1).elim
      ·rw [q1] at hs
       obtain ⟨o'',he,_⟩:=hs
       cases he
       exact ⟨q3.lt,q2,_,_,q1⟩
    obtain ⟨hb,hp,cc,ss,d2b⟩:=hbl
    have hFb:Fr C HD ρ' t b:=by
     refine ⟨⟨.inl hp,h1.maps.not id b cc ss (by rw [b0H];rfl) d2b⟩,fun m=>?_⟩
     rcases a3Q m with ⟨id1,e1,sz1,d2c,cap1,s1,m1,m2⟩|⟨id1,ag,es,cap1,s1,m1,m2⟩
     rotate_left
     ·obtain ⟨_,g2,g3⟩:=mpo id1 ag es m1
      exact h1.apart b0H g2 d2b (by rw [<-g3];exact m2)
     rcases arr id1 e1 sz1 false d2c m1 with ⟨_,k2,hk2,rfl,b2⟩|⟨b2,b3,b4⟩
     ·rcases b2 with ⟨_,b2⟩|⟨id2,n2,p1,p2,p3,p4⟩
      ·rw [b2] at m2;cases m2
      ·rw [p4] at m2
       have:id2=id:=h1.inj id2 id e1 sz1 d2c e0 sz0 f0 rs0 b cap1 s1 cc ss p2 b0H m2 d2b
       subst this
       have:=a5S hnd p1 hc
       subst this
       rw [hk] at hk2;cases hk2
     ·rw [b4] at m2
      have:id1=id:=h1.inj id1 id e1 sz1 d2c e0 sz0 f0 rs0 b cap1 s1 cc ss b3 b0H m2 d2b
      subst this
      exact b2 (soU k id1 off len hc)
    obtain ⟨news,n1,n2,n3,n4⟩:=a3v g1 g3
    have hget:∀q,q<rows.length*sz->∃u,news[q]?=some u/\w.cell? ⟨b,o'+q,none⟩=some u:=fun q hq=>by
     have hlt:q<news.length:=by omega
     have:=n2 q news[q] (List.getElem?_eq_getElem hlt)
     rw [Addr.add_lit] at this
     exact ⟨_,List.getElem?_eq_getElem hlt,this⟩
    refine .sl t false rows b o' cap sz (fun q=>news.getD q undef) hb hFb g2 (fun e=>by cases e) (fun i r hi=>g1 r (List.mem_of_getElem? hi)) (fun q hq=>?_) (fun q hq=>?_) (fun i j r c hi hj=>?_)
    ·obtain ⟨u,u1,u2⟩:=hget q hq
     simp [List.getD,u1,u2]
    ·obtain ⟨u,u1,u2⟩:=hget q hq
     have:news.getD q undef=u:=by simp [List.getD,u1]
     rw [this];exact n3 u (List.mem_of_getElem? u1)
    ·obtain ⟨u,u1,u2,u3⟩:=n4 i j r c hi hj
     have:news.getD (i*sz+j) undef=u:=by simp [List.getD,u1]
     rw [this]
     cases hrc with
     |sl _ _ _ _ hn=>exact u3.b46 (hn r (List.mem_of_getElem? hi) c (List.mem_of_getElem? hj)) hF'
  ·rename_i e sz rows
   subst hx
   simp only [adC]
   have:=a0N hu
   subst this
   refine .so _ _ _ _ (hun _ _ _ rfl) fun _=>?_
   unfold a2j
   rw [hr _ _ _ rfl]
   exact ⟨rfl,rfl,.nil⟩
  ·rename_i t cl rows
   subst hx
   have:=a0N hu
   subst this
   exact .a08 _ _ _ .nil
  ·rename_i t cl xs t' cl' xs'
   obtain ⟨rfl,ht,hb,hcl⟩:=hx
   simp only [adC]
   cases hu with
   |a08 _ _ _ hn=>exact .a08 _ _ _ hn
   |sl _ _ _ b o cap sz vs hb' hf hcap e1E hrow hcell hone hrel=>
    have hf':Fr C HD ρ' t' b:=by
     rcases ht with rfl|⟨rfl,rfl⟩
     ·exact hF _ b hf
     ·refine ⟨⟨?_,hf.1.2⟩,fun m=>hf.2 (e1D b m)⟩
      rcases hf.1.1 with q|⟨q,_⟩
      ·exact .inl q
      ·exact (q rfl).elim
    cases hrc with
    |sl _ _ _ _ hn=>
     exact .sl t' cl' xs b o cap sz vs hb' hf' hcap (fun e=>e1E (hcl e)) hrow hcell hone fun i j r c hi hj=>(hrel i j r c hi hj).b46 (hn r (List.mem_of_getElem? hi) c (List.mem_of_getElem? hj)) hF'
  ·subst hx
   exact hu.b46 (.raw _) hF'
  ·subst hx
   exact hu.b46 (.str _) hF'
  ·exact hx.elim
 refine ⟨ρ',⟨⟨h1.below,c5U,?_,?_,⟨fun id ag es q=>by
  obtain ⟨g1,g2,g3⟩:=mpo id ag es q
  obtain ⟨b,c,s,E,e1,e2,e3,e4,e5⟩:=h1.maps.row id ag es g2
  refine ⟨b,c,s,E,by rw [g3];exact e1,e2,e3,e4,fun i key x hi=>?_⟩
  obtain ⟨m,m1,m2,m3,m4⟩:=e5 i key x hi
  refine ⟨m,m1,m2,m3,f5T x _ (fun id' c8B=>?_) m4⟩
  have c5W:Hb id=.mp ag es:=by rw [<-hus id g1];exact g2
  rw [hbN] at c5W
  cases hu:upN us id with
  |some ob=>rw [hu] at c5W;exact (hnp _ (a8a hu) ag es c5W).elim
  |none=>
   rw [hu] at c5W
   obtain ⟨_,_,_,_,_,_,_,_,p5⟩:=h0.heap.maps.row id ag es c5W
   obtain ⟨m',_,_,_,p6⟩:=p5 i key x hi
   exact p6.d6B c8B,fun i1 i2 a1 e1 a2 e2 b c s c' s' q1 q2 r1 r2=>by
  obtain ⟨_,g2,g3⟩:=mpo i1 a1 e1 q1
  obtain ⟨_,f2,f3⟩:=mpo i2 a2 e2 q2
  exact h1.maps.inj i1 i2 a1 e1 a2 e2 b c s c' s' g2 f2 (by rw [<-g3];exact r1) (by rw [<-f3];exact r2),h1.maps.there,fun id b c s hl hr=>by
  replace hl:(HD id).live=true:=hl
  cases ho:HD id with
  |arr e sz f rows=>
   rcases arr id e sz f rows ho with ⟨_,k,hk,rfl,h2⟩|⟨h2,h3,h4⟩
   ·rcases h2 with ⟨_,h2⟩|⟨id0,n,h2,h3,h4,h5⟩
    ·rw [h2] at hr;cases hr
    ·exact h1.maps.not id0 b c s (by rw [h3];rfl) (by rw [<-h5];exact hr)
   ·exact h1.maps.not id b c s (by rw [h3];rfl) (by rw [<-h4];exact hr)
  |mp ag es=>
   obtain ⟨_,g2,g3⟩:=mpo id ag es ho
   exact h1.maps.not id b c s (by rw [g2];rfl) (by rw [<-g3];exact hr)
  |_=>rw [ho] at hl;cases hl⟩⟩,fun t=>(h0.slot t).keep hk,h0.a7T,C.b42 hk h0.ghost,h0.nf⟩,?_⟩
 ·intro i1 i2 e1 s1 r1 e2 s2 f2 r2 b c s c' s' g1 g2 hρ1 hρ2
  have key:∀i e sz f rows c s,HD i=.arr e sz f rows->ρ' i=some (b,c,s)->∃i0 f',Hf i0=.arr e sz f' rows/\ρ i0=some (b,c,s)/\(f=false->f'=false)/\
    ((st.H i≠.a0g/\i0=i)\/(st.H i0=.a0g/\∃(k:Nat) (n:Nat),i=nm k/\res.flat[k]?=some (.so i0 0 n))):=fun i e sz f rows c s hi hρ=>by
   rcases arr i e sz f rows hi with ⟨rfl,k,hk,rfl,b2⟩|⟨b2,b3,b4⟩
   ·rcases b2 with ⟨_,b2⟩|⟨id2,n2,p1,p2,p3,p4⟩
    ·rw [b2] at hρ;cases hρ
    ·exact ⟨id2,false,p2,by rw [<-p4];exact hρ,fun h=>h,.inr ⟨soU k _ _ _ p1,k,n2,rfl,p1⟩⟩
   ·exact ⟨i,f,b3,by rw [<-b4];exact hρ,fun h=>h,.inl ⟨b2,rfl⟩⟩
  obtain ⟨j1,f1',a1,a2,a3,a4⟩:=key i1 e1 s1 false r1 c s g1 hρ1
  obtain ⟨j2,f2',b1,b2,b3,b4⟩:=key i2 e2 s2 f2 r2 c' s' g2 hρ2
  have a5:=a3 rfl
  subst a5
  have:j1=j2:=h1.inj j1 j2 e1 s1 r1 e2 s2 f2' r2 b c s c' s' a1 b1 a2 b2
  subst this
  rcases a4 with ⟨a4,rfl⟩|⟨a4,k1,n1,rfl,a6⟩
  ·rcases b4 with ⟨b4,rfl⟩|⟨b4,_⟩
   ·rfl
   ·exact (a4 b4).elim
  ·rcases b4 with ⟨b4,rfl⟩|⟨b4,k2,n2,rfl,b6⟩
   ·exact (b4 a4).elim
   ·rw [a5S hnd a6 b6]
 ·rw [<-hHD]
  refine b2k nm _ _ ?_
  obtain ⟨N,hN⟩:=h0.heap.fin
  exact ⟨N,fun k d hk=>by
   have:=hN k d hk
   by_cases e:Hb (k,d)=.a0g
   ·exact e
   ·exact ((hbb (k,d)).1 e this).elim⟩
 ·cases res with
  |c x=>
   cases ret with
   |c y=>
    cases hv with
    |c _ _ hx=>exact .c _ _ (b43 0 y x _ rfl rfl hex hx)
   |_=>exact hex.elim
  |g xs=>
   cases ret with
   |g ys=>
    cases hv with
    |g _ vs hl hx=>
     obtain ⟨g1,g2⟩:=a5R (H:=Hf) (cs:=xs) (ds:=ys) hex
     refine .g _ vs (by rw [a9V];omega) fun k c hc=>?_
     rw [b5W,Option.map_eq_some_iff] at hc
     obtain ⟨d,hd,rfl⟩:=hc
     obtain ⟨c0,hc0,hx0⟩:=g2 k d hd
     rw [Nat.zero_add]
     exact b43 k d c0 _ hd hc0 hx0 (hx k c0 hc0)
   |_=>exact hex.elim
  |t ps=>
   cases ret with
   |t qs=>
    cases hv with
    |t _ vs hl hx=>
     obtain ⟨g1,g2⟩:=b7f nm (H:=Hf) 0 (ps:=ps) (qs:=qs) hex
     have hlen2:(adT nm 0 qs).length=qs.length:=by
      have:∀(qs:List (Bool×List AC)) (k:Nat),(adT nm k qs).length=qs.length:=fun qs=>by
       induction qs with
       |nil=>intro k;rfl
       |cons q r ih=>intro k;obtain ⟨b,cs⟩:=q;simp [adT,ih]
      exact this _ _
     refine .t _ vs (by rw [hlen2];omega) fun j b cs hj=>?_
     have hjl:j<qs.length:=by rw [<-hlen2];exact (List.getElem?_eq_some_iff.1 hj).1
     obtain ⟨b0,ds0,hq⟩:∃b0 ds0,qs[j]?=some (b0,ds0):=⟨(qs[j]).1,(qs[j]).2,by simp [hjl]⟩
     obtain ⟨cs0,k',p1,p2,p3,p4,p5⟩:=g2 j b0 ds0 hq
     rw [hj] at p5
     simp only [Option.some.injEq,Prod.mk.injEq] at p5
     obtain ⟨rfl,rfl⟩:=p5
     have hxx:=hx j _ _ p1
     generalize vs.getD j undef=u at hxx
     obtain ⟨l1,l2⟩:=a5R p2
     rw [Nat.zero_add]
     cases hxx with
     |c x _ hx0=>
      match ds0,l1 with
      |[d0],_=>
       obtain ⟨c0,hc0,hx1⟩:=l2 0 d0 rfl
       simp at hc0
       subst hc0
       exact .c _ _ (b43 (k'+0) d0 x _ (p4 0 d0 rfl) (p3 0 x rfl) hx1 hx0)
     |g _ us hl hu=>
      refine .g _ us (by rw [a9V];omega) fun i c hc=>?_
      rw [b5W,Option.map_eq_some_iff] at hc
      obtain ⟨d,hd,rfl⟩:=hc
      obtain ⟨c0,hc0,hx0⟩:=l2 i d hd
      exact b43 (k'+i) d c0 _ (p4 i d hd) (p3 i c0 hc0) hx0 (hu i c0 hc0)
   |_=>exact hex.elim
open Go
variable {P:Program}
def a7r (H:Heap) (T:Nat) (args:List AV):St:={s:=fun t=>args.getD t (.c (.raw undef)),H:=H,T:=T}
def d6C (P:Program) (fn:Func) (R:AV->Heap->Prop) (e:AEx) (st:St):Prop:=
 (match e with|.normal|.ret=>True|_=>False)/\∃res,c08 P st fn.results.toList=some res/\R res st.H
theorem c7c {calm:Array Oper->Bool} (hcalm:c2C P calm) {f:FuncId} {fn:Func} {c:Code} {st:St} {dst:Option Nat} {args:List AV} {us:List (Id×OK)} {ret:AV} (hf:P.funcs[f]?=some fn) (hb:fn.body=some c)
  (hok:a0M calm fn args.length=true) (hret:∀c∈ret.flat,b0J c) (hun:a6Q (a2n st dst) st.H 0 ret.flat) (hub:∀q∈us,q.2≠.a0g/\st.H q.1≠.a0g) (hnp:∀q∈us,∀ag es,q.2≠.mp ag es)
  (hcl:∀q∈us,∀e sz f rows,q.2=.arr e sz f rows->∀r∈rows,∀c∈r,∀id,idD id c->st.H id≠.a0g)
  (h:∀T,a0E st.H T->awp P c (d6C P fn fun res H=>exV H res ret/\(a2u res.flat).Nodup/\(∀id∈a2u res.flat,st.H id=.a0g)/\∀i,st.H i≠.a0g->H i=upH st.H us i) (a7r st.H T args)) :
  c06 P st f args fun r H T=>r=ret.ad (a2n st dst)/\H=adH (a2n st dst) 0 ret.flat (upH st.H us)/\T=st.T:=by
 simp only [a0M,hb,Bool.and_eq_true,decide_eq_true_eq,bne_iff_ne,ne_eq] at hok
 obtain ⟨⟨hname,hcode⟩,hle⟩:=hok
 refine ⟨by simp [a4H,hf,hb,hname],fun C ρ a w vs hr hsz hargs=>?_⟩
 obtain ⟨N,hN⟩:=hr.heap.fin
 let X:World->(Tag->Nat->Prop)->Heap->Lies->Prop:=fun w' F' H' ρ'=>a13 w w' (Fr C st.H ρ) F' st.H H' ρ ρ'
 let C':Ctx P:=⟨C.w0,C.hI,C.G,X,fun k q=>q.trans k,C.B,C.K⟩
 have h0:Rel C' ρ (a7r st.H N args) {tmps:=vs++Array.replicate (fn.ntmps-vs.size) undef,defers:=[]} w:=by
  refine ⟨hr.heap.ctx X _,fun t=>?_,rfl,a13.refl _ _ _ _,fun h=>by cases h⟩
  simp only [a7r]
  by_cases ht:t<args.length
  ·have h1:args[t]?=some (args.getD t (.c (.raw undef))):=by simp [ht]
   have h2:(vs++Array.replicate (fn.ntmps-vs.size) undef).getD t undef=vs.getD t undef:=by
    simp [Array.getD_eq_getD_getElem?,Array.getElem?_append,show t<vs.size by omega]
   rw [h2];exact hargs t _ h1
  ·have h1:args.getD t (.c (.raw undef))=.c (.raw undef):=by simp [List.getD,List.getElem?_eq_none (Nat.le_of_not_lt ht)]
   have h2:(vs++Array.replicate (fn.ntmps-vs.size) undef).getD t undef=undef:=by
    simp only [Array.getD_eq_getD_getElem?,Array.getElem?_append,show ¬t<vs.size by omega,if_false,Array.getElem?_replicate]
    split<;>rfl
   rw [h1,h2];exact .c _ _ (.raw _)
 refine calls_of_wp hf hb (Code.wp_mono (fun e a' w' q=>?_) (a2E calm hcalm c fn.ntmps _ ρ (a7r st.H N args) _ w hcode (by simp;omega) h0 (h N hN)))
 have fin:a2h C' fn.ntmps (fun st'=>∃res,c08 P st' fn.results.toList=some res/\exV st'.H res ret/\(a2u res.flat).Nodup/\(∀id∈a2u res.flat,st.H id=.a0g)/\∀i,st.H i≠.a0g->st'.H i=upH st.H us i) a' w'->
   a'.defers=[]/\∃v,(results fn a'.tmps).run P w'=.ok v w'/\(∃v',Ending.returned v=.returned v'/\∃ρ' r H' T',Rel C ρ' (st.back H' T') a w'/\a3u w' (Fr C H' ρ') H' ρ' r v'/\
    r=ret.ad (a2n st dst)/\H'=adH (a2n st dst) 0 ret.flat (upH st.H us)/\T'=st.T):=
  fun ⟨_,ρ',st',hr',res,g1,g2,g3,g4,g5⟩=>by
   obtain ⟨v,h1,h2⟩:=a5a hr' g1
   obtain ⟨ρ2,k1,k2⟩:=gc hr (hr'.heap.d6y) hr'.ghost h2 hret g2 g3 g4 (a2n st dst) (b2n st dst) hun g5 hub hnp hcl
   exact ⟨hr'.a7T,v,h1,v,rfl,ρ2,_,_,_,k1,k2,rfl,rfl,rfl⟩
 cases e with
 |normal=>exact fin (a2h.mono q fun st hs=>hs.2)
 |ret=>exact fin (a2h.mono q fun st hs=>hs.2)
 |exit id=>
  obtain ⟨_,_,_,_,hs⟩:=q
  exact hs.1.elim
 |_=>exact q.elim
def mh1 (e sz:Nat) (g:List AC->List AV->Option (Prop×List AC×AV)):MH:=fun H args=>
 match args with
 |.c (.pt id 0 0)::rest=>match H id with
  |.arr e' sz' false [row]=>if e'=e/\sz'=sz then (g row rest).map fun r=>(r.1,[(id,.arr e sz false [r.2.1])],r.2.2) else none
  |_=>none
 |_=>none
def e78 (e sz:Nat) (g:List AC->List AV->Option (Prop×List AC×AV)) (id:Id) (rest:List AV) (o:OK):Option (Prop×List (Id×OK)×AV):=
 match o with
 |.arr e' sz' false [row]=>if e'=e/\sz'=sz then (g row rest).map fun r=>(r.1,[(id,.arr e sz false [r.2.1])],r.2.2) else none
 |_=>none
@[simp] theorem f4S {e sz:Nat} {g:List AC->List AV->Option (Prop×List AC×AV)} {H:Heap} {id:Id} {rest:List AV}:mh1 e sz g H (.c (.pt id 0 0)::rest)=e78 e sz g id rest (H id):=rfl
@[simp] theorem e79 {e sz:Nat} {g:List AC->List AV->Option (Prop×List AC×AV)} {id:Id} {rest:List AV} {row:List AC}:e78 e sz g id rest (.arr e sz false [row])=(g row rest).map fun r=>(r.1,[(id,.arr e sz false [r.2.1])],r.2.2):=by simp [e78]
theorem b7E {e sz:Nat} {g:List AC->List AV->Option (Prop×List AC×AV)} {H:Heap} {args:List AV} {r} (h:mh1 e sz g H args=some r) :
  ∃id rest row q,args=.c (.pt id 0 0)::rest/\H id=.arr e sz false [row]/\g row rest=some q/\r=(q.1,[(id,.arr e sz false [q.2.1])],q.2.2):=by
 unfold mh1 at h
 split at h
 ·rename_i id rest
  split at h
  ·rename_i e' sz' row hid
   split at h
   ·rename_i he
    obtain ⟨rfl,rfl⟩:=he
    rw [Option.map_eq_some_iff] at h
    obtain ⟨q,hq,rfl⟩:=h
    exact ⟨id,rest,row,q,rfl,hid,hq,rfl⟩
   ·cases h
  ·cases h
 ·cases h
theorem d0D (hm:P.follows .mixedOrders=true) {F:CT} (hF:a1k P F) {f:FuncId} {fn:Func} {s:SC} {e sz:Nat} {g:List AC->List AV->Option (Prop×List AC×AV)} (hf:P.funcs[f]?=some fn) (hs:a0q fn.body s=some (unK s,true))
  (hok:a0M a0p fn 0=true)
  (hlo:∀row rest q,g row rest=some q->Nat.ble (rest.length+1) fn.ntmps=true/\(∀c∈q.2.2.flat,b0J c)/\(∀c∈q.2.1,∀id,¬idD id c))
  (h:∀(H:Heap) (T:Nat) (id:Id) row rest q,H id=.arr e sz false [row]->a0E H T->g row rest=some q->q.1->
   a2S P F s (d6C P fn fun res H'=>exV H' res q.2.2/\(a2u res.flat).Nodup/\(∀i∈a2u res.flat,H i=.a0g)/\a0z [id] H H'/\H' id=.arr e sz false [q.2.1]) (a7r H T (.c (.pt id 0 0)::rest))) :
  a5C P f (mh1 e sz g):=by
 refine ⟨fun {H H' args r} hr hH=>?_,fun {H args C us ret} hr=>?_,fun {st dst args C us ret} hr hC hun=>?_⟩
 ·obtain ⟨id,rest,row,q,rfl,h2,h3,rfl⟩:=b7E hr
  have h4:H' id=.arr e sz false [row]:=by rw [hH id ⟨_,List.mem_cons_self,by simp⟩ (by rw [h2];simp),h2]
  simp [h4,h3]
 ·obtain ⟨id,rest,row,q,rfl,h2,h3,h4⟩:=b7E hr
  simp only [Prod.mk.injEq] at h4
  obtain ⟨_,rfl,_⟩:=h4
  intro p hp
  simp only [List.mem_singleton] at hp
  subst hp
  exact ⟨by simp,by rw [h2];simp,_,List.mem_cons_self,by simp⟩
 ·obtain ⟨id,rest,row,q,rfl,h2,h3,h4⟩:=b7E hr
  simp only [Prod.mk.injEq] at h4
  obtain ⟨rfl,rfl,rfl⟩:=h4
  obtain ⟨l1,l2,l3⟩:=hlo row rest q h3
  cases hb:fn.body with
  |none=>rw [hb] at hs;cases hs
  |some c=>
   rw [hb] at hs
   simp only [a0q,Option.map_some,Option.some.injEq,Prod.mk.injEq] at hs
   refine c7c (a9O hm) hf hb ?_ l2 hun (fun p hp=>?_) (fun p hp ag es=>by simp only [List.mem_singleton] at hp;subst hp;simp) (fun p hp e' sz' f' rows he r hr c hc id' c8B=>?_) fun T hT=>?_
   ·simp only [a0M,hb,Bool.and_eq_true] at hok ⊢
    exact ⟨hok.1,by simpa using Nat.le_of_ble_eq_true l1⟩
   ·simp only [List.mem_singleton] at hp
    subst hp
    exact ⟨by simp,by rw [h2];simp⟩
   ·simp only [List.mem_singleton] at hp
    subst hp
    cases he
    simp only [List.mem_singleton] at hr
    subst hr
    exact (l3 c hc id' c8B).elim
   ·refine a4K (fun e st' hq=>?_) (b1e hF hs.1 hs.2 (h st.H T id row rest q h2 hT h3 hC))
    obtain ⟨q1,res,q2,q3,q4,q5,q6,q7⟩:=hq
    refine ⟨q1,res,q2,q3,q4,q5,fun i hi=>?_⟩
    simp only [upH]
    by_cases hid:i=id
    ·subst hid;simp [hset,q7]
    ·simp only [hset,if_neg hid]
     exact q6 i hi (by simpa using hid)
section
variable {st:St} {H:Heap} {T:Nat} {args:List AV} {k:Nat}
@[simp] theorem e2M:(a7r H T args).s k=args.getD k (.c (.raw undef)):=rfl
@[simp] theorem e2N:(a7r H T args).H=H:=rfl
@[simp] theorem e2O:(a7r H T args).T=T:=rfl
@[simp] theorem e2P {fn:Func} {R:AV->Heap->Prop}:d6C P fn R .ret st=∃res,c08 P st fn.results.toList=some res/\R res st.H:=by simp [d6C]
end
@[simp] theorem e8a {id:Id} {v:Value}:idD id (.raw v)↔False:=⟨(fun h=>nomatch h),(fun h=>h.elim)⟩
@[simp] theorem e8b {id:Id} {l:List UInt8}:idD id (.str l)↔False:=⟨(fun h=>nomatch h),(fun h=>h.elim)⟩
theorem a1Y.noD {c:AC} (h:a1Y c) {id:Id}:¬idD id c:=by
 induction h with
 |raw v=>simp
 |str l=>simp
 |sl t cl xs ht h ih=>
  intro hi
  cases hi with
  |sl _ _ _ r c hr hc hi=>exact ih r hr c hc hi
theorem a0z.ext {S:List Id} {H0 H:Heap} {T0 T:Nat} (h:a3f S H0 T0 H T):a0z S H0 H:=h.1
open Go
variable {P:Program}
theorem c3v {C:Ctx P} {H H':Heap} {ρ ρ':Lies} {w:World} {F':Tag->Nat->Prop} {id:Id} {v:Value} {e sz:Nat} {xs:List (List AC)} (hH:a2B C H ρ w) (h:a03 w (Fr C H ρ) H ρ (.so id 0 xs.length) v) (hid:H id=.arr e sz false xs)
  (hr:∀r∈xs,∀c∈r,a1Y c) (hF:∀t b,Fr C H ρ t b->F' t b) (hnm:∀b c s,ρ id=some (b,c,s)->C.p<=b/\¬C.B b->F' .old b):a03 w F' H' ρ' (.sl .old false xs) v:=by
 have hrows:rowsOf H (.so id 0 xs.length)=some xs:=by simp [rowsOf,hid]
 have hin:∀c u,a1Y c->a03 w (Fr C H ρ) H ρ c u->a03 w F' H' ρ' c u:=fun c u hc hu=>hu.b46 hc fun t b _ hb=>hF t b hb
 have hs:a2j ρ id 0 xs.length v:=by
  cases h with
  |so _ _ _ _ hk hs=>exact hs (by rw [hid];rfl)
 unfold a2j at hs
 rcases (hH.row id e sz false xs hid).lies with ⟨q1,q2⟩|⟨b',cap',cur,q1,q0,q3,_⟩
 ·rw [q1] at hs;subst q2;exact .a08 _ _ _ hs.2.2
 ·have hnm':=hnm b' cap' sz q1 ⟨q0,hH.maps.not id b' cap' sz (by rw [hid];rfl) q1⟩
  rw [q1] at hs
  obtain ⟨o'',he,_⟩:=hs
  have hb:b'<w.heap.size:=q3.lt
  rcases a2R hH h hrows with ⟨hn,rfl⟩|⟨b,o',cap,sz',rfl,g1,g2,g3⟩
  ·exact .a08 _ _ _ hn
  ·cases he
   obtain ⟨news,n1,n2,n3,n4⟩:=a3v g1 g3
   have hbl:∀k,k<xs.length*sz'->∃u,w.cell? ⟨b',o''+k,none⟩=some u/\news[k]?=some u:=fun k hk=>by
    have:k<news.length:=by omega
    have h1:=n2 k news[k] (List.getElem?_eq_getElem this)
    rw [Addr.add_lit] at h1
    exact ⟨_,h1,List.getElem?_eq_getElem this⟩
   refine .sl _ _ xs b' o'' _ sz' (fun k=>news.getD k undef) hb hnm' g2 (fun e=>by cases e) (fun i r hi=>g1 r (List.mem_of_getElem? hi)) (fun k hk=>?_) (fun k hk=>?_) (fun i j r c hi hj=>?_)
   ·obtain ⟨u,u1,u2⟩:=hbl k hk
    rw [u1];simp [List.getD,u2]
   ·obtain ⟨u,u1,u2⟩:=hbl k hk
    have:news.getD k undef=u:=by simp [List.getD,u2]
    rw [this];exact n3 u (List.mem_of_getElem? u2)
   ·obtain ⟨u,u1,u2,u3⟩:=n4 i j r c hi hj
    have:news.getD (i*sz'+j) undef=u:=by simp [List.getD,u1]
    rw [this]
    exact hin _ _ (hr r (List.mem_of_getElem? hi) c (List.mem_of_getElem? hj)) u3
theorem d0E {C:Ctx P} {H H2:Heap} {ρ:Lies} {w:World} {id:Id} {v:Value} {e sz:Nat} {xs:List (List AC)} (hH:a2B C H ρ w) (h:a03 w (Fr C H ρ) H ρ (.so id 0 xs.length) v) (hid:H id=.arr e sz false xs)
  (hr:∀r∈xs,∀c∈r,a1Y c) (hF:∀t b,Fr C H ρ t b->Fr C H2 ρ t b) (hnm:∀b c s,ρ id=some (b,c,s)->¬Mut H2 ρ b):a03 w (Fr C H2 ρ) H2 ρ (.sl .old false xs) v:=
 c3v hH h hid hr hF fun b c s h1 h2=>⟨⟨.inl h2.1,h2.2⟩,hnm b c s h1⟩
def d2B (H:Heap) (id o:Id) (e2 sz2:Nat) (rows xs:List (List AC)) (k j:Nat) (r:List AC):Heap:=
 hset (hset H id .dead) o (.arr e2 sz2 false (rows.set k (r.set j (.sl .old false xs))))
theorem c7d {C:Ctx P} {H:Heap} {ρ:Lies} {w:World} {id o:Id} {e sz e2 sz2:Nat} {xs rows:List (List AC)} {k j:Nat} {r:List AC} (hH:a2B C H ρ w) (hid:H id=.arr e sz false xs)
  (hx:∀r∈xs,∀c∈r,a1Y c) (ho:H o=.arr e2 sz2 false rows) (hne:o≠id) (hr:rows[k]?=some r) (hj:r[j]?=some (.so id 0 xs.length)) :
  a2B C (d2B H id o e2 sz2 rows xs k j r) ρ w/\a13 w w (Fr C H ρ) (Fr C (d2B H id o e2 sz2 rows xs k j r) ρ) H (d2B H id o e2 sz2 rows xs k j r) ρ ρ:=by
 generalize hH2:d2B H id o e2 sz2 rows xs k j r=H2
 have g0:∀i,H2 i=if i=o then .arr e2 sz2 false (rows.set k (r.set j (.sl .old false xs))) else if i=id then .dead else H i:=fun i=>by
  rw [<-hH2];rfl
 have gun:∀i,H2 i=.a0g↔H i=.a0g:=fun i=>by
  rw [g0]
  split
  ·rename_i h;subst h;rw [ho];simp
  ·split
   ·rename_i h;subst h;rw [hid];simp
   ·exact Iff.rfl
 have c6a:∀{i e' sz' f' rs},H2 i=.arr e' sz' f' rs->∃rs0,H i=.arr e' sz' f' rs0/\i≠id/\rs0.length=rs.length:=fun {i e' sz' f' rs} h=>by
  rw [g0] at h
  split at h
  ·rename_i hi
   subst hi
   cases h
   exact ⟨rows,ho,hne,by simp⟩
  ·split at h
   ·cases h
   ·rename_i hi
    exact ⟨rs,h,hi,rfl⟩
 have gmp:∀{i ag es},H2 i=.mp ag es->H i=.mp ag es:=fun {i ag es} h=>by
  rw [g0] at h
  repeat' split at h
  all_goals first|exact h|cases h
 have b6U:∀b,Mut H2 ρ b->Mut H ρ b:=fun b m=>by
  rcases a3Q m with ⟨i,e',sz',rs,cap,s,h1,h2⟩|⟨i,ag,es,cap,s,h1,h2⟩
  ·obtain ⟨rs0,h3,_,_⟩:=c6a h1
   exact a6N h3 h2
  ·exact b49 (gmp h1) h2
 have hF:∀t b,Fr C H ρ t b->Fr C H2 ρ t b:=fun t b h=>⟨h.1,fun q=>h.2 (b6U b q)⟩
 have hk:a13 w w (Fr C H ρ) (Fr C H2 ρ) H H2 ρ ρ:=by
  refine ⟨Nat.le_refl _,fun t b h _=>⟨hF t b h,rfl⟩,fun i hi=>⟨fun q=>hi ((gun i).1 q),fun hl=>⟨?_,rfl⟩⟩⟩
  cases h2:H2 i with
  |arr e' sz' f' rs=>
   obtain ⟨rs0,h3,_,_⟩:=c6a h2
   rw [h3];rfl
  |mp ag es=>rw [gmp h2];rfl
  |_=>rw [h2] at hl;cases hl
 have hnm:∀b c s,ρ id=some (b,c,s)->¬Mut H2 ρ b:=fun b c s hρ m=>by
  rcases a3Q m with ⟨i,e',sz',rs,cap,s',h1,h2⟩|⟨i,ag,es,cap,s',h1,h2⟩
  ·obtain ⟨rs0,h3,h4,_⟩:=c6a h1
   exact h4 (hH.inj i id e' sz' rs0 e sz false xs b cap s' c s h3 hid h2 hρ)
  ·exact hH.apart hid (gmp h1) hρ h2
 refine ⟨⟨hH.below,fun i e' sz' f' rs hi=>?_,fun i i' e' sz' rs e'' f3R f'' rs' b c s c' s' h1 h2=>?_,?_,hH.maps.keep hk (fun i ag es q=>⟨gmp q,rfl,fun _ _ _ _=>rfl⟩) (fun i b c s hu hl=>by rw [(gun i).2 hu] at hl;cases hl) fun _ _=>rfl⟩,hk⟩
 ·by_cases hio:i=o
  ·subst hio
   rw [g0,if_pos rfl] at hi
   cases hi
   have hrow:=hH.row i e2 sz2 false rows ho
   refine ⟨fun q r' hq=>?_,?_⟩
   ·rw [List.getElem?_set] at hq
    split at hq
    ·split at hq
     ·cases hq
      rw [List.length_set]
      exact hrow.a3p k r hr
     ·cases hq
    ·exact hrow.a3p q r' hq
   ·rcases hrow.lies with ⟨l1,l2⟩|⟨b,cap,cur,l1,l2,l3,l4,l5,l6,l7⟩
    ·subst l2;simp at hr
    ·refine .inr ⟨b,cap,cur,l1,l2,l3,by simpa using l4,l5,l6,fun q q' r' c hq hq'=>?_⟩
     rw [List.getElem?_set] at hq
     split at hq
     ·rename_i hkq
      subst hkq
      split at hq
      ·cases hq
       rw [List.getElem?_set] at hq'
       split at hq'
       ·rename_i hjq
        subst hjq
        split at hq'
        ·cases hq'
         obtain ⟨v,v1,v2,v3⟩:=l7 k j r _ hr hj
         exact ⟨v,v1,v2,d0E hH v3 hid hx hF hnm⟩
        ·cases hq'
       ·obtain ⟨v,v1,v2,v3⟩:=l7 k q' r c hr hq'
        exact ⟨v,v1,v2,v3.keep hk⟩
      ·cases hq
     ·obtain ⟨v,v1,v2,v3⟩:=l7 q q' r' c hq hq'
      exact ⟨v,v1,v2,v3.keep hk⟩
  ·have h3:H i=.arr e' sz' f' rs:=by
    rw [g0,if_neg hio] at hi
    split at hi
    ·cases hi
    ·exact hi
   have hrow:=hH.row i e' sz' f' rs h3
   refine ⟨hrow.a3p,?_⟩
   rcases hrow.lies with l|⟨b,cap,cur,l1,l2,l3,l4,l5,l6,l7⟩
   ·exact .inl l
   ·exact .inr ⟨b,cap,cur,l1,l2,l3,l4,l5,l6,fun q q' r' c hq hq'=>by
     obtain ⟨v,v1,v2,v3⟩:=l7 q q' r' c hq hq'
     exact ⟨v,v1,v2,v3.keep hk⟩⟩
 ·obtain ⟨r0,h3,_,_⟩:=c6a h1
  obtain ⟨r1,h4,_,_⟩:=c6a h2
  exact hH.inj i i' e' sz' r0 e'' f3R f'' r1 b c s c' s' h3 h4
 ·obtain ⟨N,hN⟩:=hH.fin
  exact ⟨N,fun k d hk=>(gun _).2 (hN k d hk)⟩
def d2C (H:Heap) (o:Id) (e2 sz2:Nat) (rows:List (List AC)) (k j:Nat) (r:List AC):Heap:=
 hset H o (.arr e2 sz2 false (rows.set k (r.set j (.sl .old false []))))
theorem c7e {C:Ctx P} {H:Heap} {ρ:Lies} {w:World} {o:Id} {e2 sz2:Nat} {rows:List (List AC)} {k j:Nat} {r:List AC} (hH:a2B C H ρ w)
  (ho:H o=.arr e2 sz2 false rows) (hr:rows[k]?=some r) (hj:r[j]?=some (.raw (.slice none 0 0))) :
  a2B C (d2C H o e2 sz2 rows k j r) ρ w/\a13 w w (Fr C H ρ) (Fr C (d2C H o e2 sz2 rows k j r) ρ) H (d2C H o e2 sz2 rows k j r) ρ ρ:=by
 generalize hH2:d2C H o e2 sz2 rows k j r=H2
 have g0:∀i,H2 i=if i=o then .arr e2 sz2 false (rows.set k (r.set j (.sl .old false []))) else H i:=fun i=>by
  rw [<-hH2];rfl
 have gun:∀i,H2 i=.a0g↔H i=.a0g:=fun i=>by
  rw [g0]
  split
  ·rename_i h;subst h;rw [ho];simp
  ·exact Iff.rfl
 have c6a:∀{i e' sz' f' rs},H2 i=.arr e' sz' f' rs->∃rs0,H i=.arr e' sz' f' rs0/\rs0.length=rs.length:=fun {i e' sz' f' rs} h=>by
  rw [g0] at h
  split at h
  ·rename_i hi
   subst hi
   cases h
   exact ⟨rows,ho,by simp⟩
  ·exact ⟨rs,h,rfl⟩
 have gmp:∀{i ag es},H2 i=.mp ag es->H i=.mp ag es:=fun {i ag es} h=>by
  rw [g0] at h
  repeat' split at h
  all_goals first|exact h|cases h
 have b6U:∀b,Mut H2 ρ b->Mut H ρ b:=fun b m=>by
  rcases a3Q m with ⟨i,e',sz',rs,cap,s,h1,h2⟩|⟨i,ag,es,cap,s,h1,h2⟩
  ·obtain ⟨rs0,h3,_⟩:=c6a h1
   exact a6N h3 h2
  ·exact b49 (gmp h1) h2
 have hF:∀t b,Fr C H ρ t b->Fr C H2 ρ t b:=fun t b h=>⟨h.1,fun q=>h.2 (b6U b q)⟩
 have hk:a13 w w (Fr C H ρ) (Fr C H2 ρ) H H2 ρ ρ:=by
  refine ⟨Nat.le_refl _,fun t b h _=>⟨hF t b h,rfl⟩,fun i hi=>⟨fun q=>hi ((gun i).1 q),fun hl=>⟨?_,rfl⟩⟩⟩
  cases h2:H2 i with
  |arr e' sz' f' rs=>
   obtain ⟨rs0,h3,_⟩:=c6a h2
   rw [h3];rfl
  |mp ag es=>rw [gmp h2];rfl
  |_=>rw [h2] at hl;cases hl
 refine ⟨⟨hH.below,fun i e' sz' f' rs hi=>?_,fun i i' e' sz' rs e'' f3R f'' rs' b c s c' s' h1 h2=>?_,?_,hH.maps.keep hk (fun i ag es q=>⟨gmp q,rfl,fun _ _ _ _=>rfl⟩) (fun i b c s hu hl=>by rw [(gun i).2 hu] at hl;cases hl) fun _ _=>rfl⟩,hk⟩
 ·by_cases hio:i=o
  ·subst hio
   rw [g0,if_pos rfl] at hi
   cases hi
   have hrow:=hH.row i e2 sz2 false rows ho
   refine ⟨fun q r' hq=>?_,?_⟩
   ·rw [List.getElem?_set] at hq
    split at hq
    ·split at hq
     ·cases hq
      rw [List.length_set]
      exact hrow.a3p k r hr
     ·cases hq
    ·exact hrow.a3p q r' hq
   ·rcases hrow.lies with ⟨l1,l2⟩|⟨b,cap,cur,l1,l2,l3,l4,l5,l6,l7⟩
    ·subst l2;simp at hr
    ·refine .inr ⟨b,cap,cur,l1,l2,l3,by simpa using l4,l5,l6,fun q q' r' c hq hq'=>?_⟩
     rw [List.getElem?_set] at hq
     split at hq
     ·rename_i hkq
      subst hkq
      split at hq
      ·cases hq
       rw [List.getElem?_set] at hq'
       split at hq'
       ·rename_i hjq
        subst hjq
        split at hq'
        ·cases hq'
         obtain ⟨v,v1,v2,v3⟩:=l7 k j r _ hr hj
         have hv:=a0N v3
         exact ⟨v,v1,v2,.a08 _ _ _ (.inl hv)⟩
        ·cases hq'
       ·obtain ⟨v,v1,v2,v3⟩:=l7 k q' r c hr hq'
        exact ⟨v,v1,v2,v3.keep hk⟩
      ·cases hq
     ·obtain ⟨v,v1,v2,v3⟩:=l7 q q' r' c hq hq'
      exact ⟨v,v1,v2,v3.keep hk⟩
  ·have h3:H i=.arr e' sz' f' rs:=by
    rw [g0,if_neg hio] at hi
    exact hi
   have hrow:=hH.row i e' sz' f' rs h3
   refine ⟨hrow.a3p,?_⟩
   rcases hrow.lies with l|⟨b,cap,cur,l1,l2,l3,l4,l5,l6,l7⟩
   ·exact .inl l
   ·exact .inr ⟨b,cap,cur,l1,l2,l3,l4,l5,l6,fun q q' r' c hq hq'=>by
     obtain ⟨v,v1,v2,v3⟩:=l7 q q' r' c hq hq'
     exact ⟨v,v1,v2,v3.keep hk⟩⟩
 ·obtain ⟨r0,h3,_⟩:=c6a h1
  obtain ⟨r1,h4,_⟩:=c6a h2
  exact hH.inj i i' e' sz' r0 e'' f3R f'' r1 b c s c' s' h3 h4
 ·obtain ⟨N,hN⟩:=hH.fin
  exact ⟨N,fun k d hk=>(gun _).2 (hN k d hk)⟩
inductive Frz:Heap->Heap->Prop where
 |refl (H:Heap):Frz H H
 |step {H H':Heap} {id o:Id} {e sz e2 sz2:Nat} {xs rows:List (List AC)} {k j:Nat} {r:List AC} (hid:H id=.arr e sz false xs) (hx:∀r∈xs,∀c∈r,a1Y c)
   (ho:H o=.arr e2 sz2 false rows) (hne:o≠id) (hr:rows[k]?=some r) (hj:r[j]?=some (.so id 0 xs.length)) (h:Frz (d2B H id o e2 sz2 rows xs k j r) H'):Frz H H'
 |nil {H H':Heap} {o:Id} {e2 sz2:Nat} {rows:List (List AC)} {k j:Nat} {r:List AC} (ho:H o=.arr e2 sz2 false rows) (hr:rows[k]?=some r) (hj:r[j]?=some (.raw (.slice none 0 0)))
   (h:Frz (d2C H o e2 sz2 rows k j r) H'):Frz H H'
theorem Frz.rel {H H':Heap} (h:Frz H H') {C:Ctx P} {ρ:Lies} {st:St} {a:Act} {w:World} (hr:Rel C ρ st a w) (he:st.H=H):Rel C ρ {st with H:=H'} a w:=by
 induction h generalizing st with
 |refl H=>subst he;exact hr
 |step hid hx ho hne hrw hj h ih=>
  subst he
  obtain ⟨h1,h2⟩:=c7d hr.heap hid hx ho hne hrw hj
  have:=ih (st:={st with H:=d2B st.H _ _ _ _ _ _ _ _ _}) (hr.a7d (T':=st.T) h1 h2) rfl
  exact this
 |nil ho hrw hj h ih=>
  subst he
  obtain ⟨h1,h2⟩:=c7e hr.heap ho hrw hj
  have:=ih (st:={st with H:=d2C st.H _ _ _ _ _ _ _}) (hr.a7d (T':=st.T) h1 h2) rfl
  exact this
open Go
variable {P:Program}
inductive HO where
 |rows (i:Id) (e sz:Nat) (xs:List (List AC))
 |var (i:Id) (e:Nat) (r:List AC)
 |snoc (i:Id) (e sz:Nat) (xs:List (List AC)) (r:List AC)
 |map (i:Id) (ag:Nat) (es:List (List Int×AC))
 |tab (i:Id) (e sz:Nat) (rr:List (List AC))
def HO.id:HO->Id
 |.rows i ..|.var i ..|.snoc i ..|.map i ..|.tab i ..=>i
def HO.ob:HO->OK
 |.rows _ e sz xs=>.arr e sz false xs
 |.var _ e r=>.arr e r.length false [r]
 |.snoc _ e sz xs r=>.arr e sz false (xs++[r])
 |.map _ ag es=>.mp ag es
 |.tab _ e sz rr=>.arr e sz false rr
def c7f:List (Nat×AV)->Nat->AV
 |[],_=>.c .a0x
 |(d,v)::r,t=>if t=d then v else c7f r t
def a2s:List HO->Heap
 |[],j=>if j.1=0 then .dead else .a0g
 |o::r,j=>if j=o.id then o.ob else a2s r j
def mkS (sl:List (Nat×AV)) (hp:List HO) (T:Nat:=1):St:={s:=c7f sl,H:=a2s hp,T:=T,n:=true}
structure PM where
 m:List (Id×Option Id)
 z:List Id
def a1w:List (Id×Option Id)->Id->Option (Option Id)
 |[],_=>none
 |(a,b)::r,i=>if i=a then some b else a1w r i
def bd (i:Id) (j:Option Id) (pm:PM) (K:PM->Prop):Prop:=
 match a1w pm.m i with
 |none=>K ⟨(i,j)::pm.m,pm.z⟩
 |some j'=>j=j'/\K pm
def a2x (xs:List (List AC)):Prop:=∀r∈xs,∀c∈r,a1Y c
mutual
def mC (H:Heap):AC->AC->PM->(PM->Prop)->Prop
 |.a0x,_,pm,K=>K pm
 |.raw v,.raw v',pm,K=>v=v'/\K pm
 |.str l,.str l',pm,K=>l=l'/\K pm
 |.so i o n,.so i' o' n',pm,K=>(o=o'/\n=n')/\bd i (some i') pm K
 |.so i o n,.raw v,pm,K=>(v=.slice none 0 0/\o=0/\n=0)/\bd i none pm K
 |.pt i a b,.pt i' a' b',pm,K=>(a=a'/\b=b')/\bd i (some i') pm K
 |.mr i,.mr i',pm,K=>bd i (some i') pm K
 |.sl t cl xs,.sl t' cl' xs',pm,K=>(t=t'/\(cl=true->cl'=true)/\xs=xs'/\a2x xs)/\K pm
 |.sl t cl xs,.so i o n,pm,K=>(t=.old/\cl=false/\o=0/\n=xs.length/\(∃e sz,H i=.arr e sz false xs)/\a2x xs)/\K ⟨pm.m,i::pm.z⟩
 |.sl t cl xs,.raw v,pm,K=>(v=.slice none 0 0/\cl=false/\xs=[])/\K pm
 |.fn f cs,.fn f' cs',pm,K=>f=f'/\mL H cs cs' pm K
 |.pv t r j,.pv t' r' j',pm,K=>(t=t'/\j=j'/\r=r'/\∀c∈r,c6m c)/\K pm
 |_,_,_,_=>False
def mL (H:Heap):List AC->List AC->PM->(PM->Prop)->Prop
 |[],[],pm,K=>K pm
 |c::cs,c'::cs',pm,K=>mC H c c' pm fun pm=>mL H cs cs' pm K
 |_,_,_,_=>False
end
def mT (H:Heap):List (Bool×List AC)->List (Bool×List AC)->PM->(PM->Prop)->Prop
 |[],[],pm,K=>K pm
 |(b,cs)::r,(b',cs')::r',pm,K=>b=b'/\mL H cs cs' pm fun pm=>mT H r r' pm K
 |_,_,_,_=>False
def mV (H:Heap):AV->AV->PM->(PM->Prop)->Prop
 |.c .a0x,_,pm,K=>K pm
 |.t xs,.t ys,pm,K=>mT H xs ys pm K
 |.c x,.c y,pm,K=>mC H x y pm K
 |.g xs,.g ys,pm,K=>mL H xs ys pm K
 |_,_,_,_=>False
def mSl (st:St):List (Nat×AV)->PM->(PM->Prop)->Prop
 |[],pm,K=>K pm
 |(d,v)::r,pm,K=>mV st.H v (st.s d) pm fun pm=>mSl st r pm K
def mR (H:Heap):List (List AC)->List (List AC)->PM->(PM->Prop)->Prop
 |[],[],pm,K=>K pm
 |r::rs,r'::rs',pm,K=>mL H r r' pm fun pm=>mR H rs rs' pm K
 |_,_,_,_=>False
def mO (H:Heap):HO->PM->(PM->Prop)->Prop
 |.rows i e sz xs,pm,K=>match a1w pm.m i with
  |some (some j)=>(H j=.arr e sz false xs/\a2x xs)/\K pm
  |some none=>xs=[]/\K pm
  |none=>False
 |.var i e r,pm,K=>match a1w pm.m i with
  |some (some j)=>match H j with
   |.arr e' sz' false [r']=>(e=e'/\sz'=r.length)/\mL H r r' pm K
   |_=>False
  |_=>False
 |.snoc i e sz xs r,pm,K=>match a1w pm.m i with
  |some (some j)=>∃r',(H j=.arr e sz false (xs++[r'])/\a2x xs)/\mL H r r' pm K
  |_=>False
 |.map i ag es,pm,K=>match a1w pm.m i with
  |some (some j)=>(H j=.mp ag es/\∀q∈es,a1Y q.2)/\K pm
  |_=>False
 |.tab i e sz rr,pm,K=>match a1w pm.m i with
  |some (some j)=>match H j with
   |.arr e' sz' false rr'=>(e=e'/\sz=sz')/\mR H rr rr' pm K
   |_=>False
  |_=>False
def mHo (H:Heap):List HO->PM->(PM->Prop)->Prop
 |[],pm,K=>K pm
 |o::r,pm,K=>mO H o pm fun pm=>mHo H r pm K
def images (m:List (Id×Option Id)):List Id:=m.filterMap (·.2)
def b5Y:List HO->Id->Prop
 |[],_=>False
 |o::r,i=>i=o.id\/b5Y r i
def c3w (hp:List HO):List (Id×Option Id)->Prop
 |[]=>True
 |(i,_)::r=>b5Y hp i/\c3w hp r
def pmZ (im:List Id):List Id->Prop
 |[]=>True
 |f::r=>f ∉ im/\pmZ im r
def pmA:List (Id×Option Id)->Prop
 |[]=>True
 |(i,j)::r=>(i.1=0->j=some i)/\pmA r
def d2D (hp:List HO) (pm:PM):Prop:=(images pm.m).Nodup/\pmZ (images pm.m) pm.z/\c3w hp pm.m
theorem c3x:∀{m:List (Id×Option Id)},pmA m->∀i j,(i,j)∈m->i.1=0->j=some i
 |[],_,i,j,h=>by simp at h
 |(a,b)::r,h,i,j,hm=>by
  rcases List.mem_cons.1 hm with e|hm
  ·cases e;exact h.1
  ·exact c3x h.2 i j hm
theorem b2D:∀{hp:List HO} {i:Id},b5Y hp i->∃o∈hp,o.id=i
 |[],_,h=>h.elim
 |o::r,i,h=>by
  rcases h with rfl|h
  ·exact ⟨o,List.mem_cons_self ..,rfl⟩
  ·obtain ⟨o',h1,h2⟩:=b2D h
   exact ⟨o',List.mem_cons_of_mem _ h1,h2⟩
theorem a7s {hp:List HO}:∀{m:List (Id×Option Id)},c3w hp m->∀q∈m,∃o∈hp,o.id=q.1
 |[],_,q,h=>by simp at h
 |(i,j)::r,h,q,hq=>by
  rcases List.mem_cons.1 hq with rfl|hq
  ·exact b2D h.1
  ·exact a7s h.2 q hq
theorem b94 {im:List Id}:∀{z:List Id},pmZ im z->∀f∈z,f ∉ im
 |[],_,q,h=>by simp at h
 |i::r,h,q,hq=>by
  rcases List.mem_cons.1 hq with rfl|hq
  ·exact h.1
  ·exact b94 h.2 q hq
inductive MC (H:Heap) (pm:PM):AC->AC->Prop where
 |a0x (c):MC H pm .a0x c
 |raw (v):MC H pm (.raw v) (.raw v)
 |str (l):MC H pm (.str l) (.str l)
 |so (i i' o n) (h:a1w pm.m i=some (some i')):MC H pm (.so i o n) (.so i' o n)
 |e1I (i) (h:a1w pm.m i=some none):MC H pm (.so i 0 0) (.raw (.slice none 0 0))
 |pt (i i' a b) (h:a1w pm.m i=some (some i')):MC H pm (.pt i a b) (.pt i' a b)
 |mr (i i') (h:a1w pm.m i=some (some i')):MC H pm (.mr i) (.mr i')
 |sl (t) (cl cl':Bool) (xs) (hc:cl=true->cl'=true) (h:a2x xs):MC H pm (.sl t cl xs) (.sl t cl' xs)
 |frz (i e sz xs) (h:H i=.arr e sz false xs) (hx:a2x xs) (hz:i∈pm.z):MC H pm (.sl .old false xs) (.so i 0 xs.length)
 |a08 (t):MC H pm (.sl t false []) (.raw (.slice none 0 0))
 |fn (f cs cs') (hl:cs.length=cs'.length) (h:∀(k:Nat) c c',cs[k]?=some c->cs'[k]?=some c'->MC H pm c c'):MC H pm (.fn f cs) (.fn f cs')
 |pv (t r j) (h:∀c∈r,c6m c):MC H pm (.pv t r j) (.pv t r j)
structure PM.le (a b:PM):Prop where
 m:∀i j,a1w a.m i=some j->a1w b.m i=some j
 z:∀f∈a.z,f∈b.z
theorem PM.le.refl (a:PM):a.le a:=⟨fun _ _ h=>h,fun _ h=>h⟩
theorem PM.le.trans {a b c:PM} (h:a.le b) (k:b.le c):a.le c:=⟨fun i j q=>k.m i j (h.m i j q),fun f q=>k.z f (h.z f q)⟩
def Got (pm:PM) (K:PM->Prop) (G:PM->Prop):Prop:=∃pm',pm.le pm'/\K pm'/\∀q,pm'.le q->G q
theorem b95 {i:Id} {j:Option Id} {pm:PM} {K:PM->Prop} (h:bd i j pm K):Got pm K fun q=>a1w q.m i=some j:=by
 unfold bd at h
 split at h
 ·rename_i hn
  refine ⟨⟨(i,j)::pm.m,pm.z⟩,⟨fun a b hab=>?_,fun _ h=>h⟩,h,fun q hq=>hq.m _ _ (by simp [a1w])⟩
  show (if a=i then some j else a1w pm.m a)=some b
  split
  ·rename_i e;subst e;rw [hn] at hab;cases hab
  ·exact hab
 ·rename_i j' hs
  obtain ⟨rfl,h⟩:=h
  exact ⟨pm,.refl _,h,fun q hq=>hq.m _ _ hs⟩
mutual
theorem c8O {H:Heap}:∀(c c':AC) (pm:PM) (K:PM->Prop),mC H c c' pm K->Got pm K fun q=>MC H q c c'
 |.a0x,c',pm,K,h=>⟨pm,.refl _,by simpa [mC] using h,fun q _=>.a0x _⟩
 |.raw v,c',pm,K,h=>by
  cases c' with
  |raw v'=>
   simp only [mC] at h
   obtain ⟨rfl,h⟩:=h
   exact ⟨pm,.refl _,h,fun q _=>.raw _⟩
  |_=>simp [mC] at h
 |.str v,c',pm,K,h=>by
  cases c' with
  |str v'=>
   simp only [mC] at h
   obtain ⟨rfl,h⟩:=h
   exact ⟨pm,.refl _,h,fun q _=>.str _⟩
  |_=>simp [mC] at h
 |.so i o n,c',pm,K,h=>by
  cases c' with
  |so i' o' n'=>
   simp only [mC] at h
   obtain ⟨⟨rfl,rfl⟩,h⟩:=h
   obtain ⟨p,h1,h2,h3⟩:=b95 h
   exact ⟨p,h1,h2,fun q hq=>.so _ _ _ _ (h3 q hq)⟩
  |raw v=>
   simp only [mC] at h
   obtain ⟨⟨rfl,rfl,rfl⟩,h⟩:=h
   obtain ⟨p,h1,h2,h3⟩:=b95 h
   exact ⟨p,h1,h2,fun q hq=>.e1I _ (h3 q hq)⟩
  |_=>simp [mC] at h
 |.pt i a b,c',pm,K,h=>by
  cases c' with
  |pt i' a' b'=>
   simp only [mC] at h
   obtain ⟨⟨rfl,rfl⟩,h⟩:=h
   obtain ⟨p,h1,h2,h3⟩:=b95 h
   exact ⟨p,h1,h2,fun q hq=>.pt _ _ _ _ (h3 q hq)⟩
  |_=>simp [mC] at h
 |.mr i,c',pm,K,h=>by
  cases c' with
  |mr i'=>
   simp only [mC] at h
   obtain ⟨p,h1,h2,h3⟩:=b95 h
   exact ⟨p,h1,h2,fun q hq=>.mr _ _ (h3 q hq)⟩
  |_=>simp [mC] at h
 |.sl t cl xs,c',pm,K,h=>by
  cases c' with
  |sl t' cl' xs'=>
   simp only [mC] at h
   obtain ⟨⟨rfl,hc,rfl,hx⟩,h⟩:=h
   exact ⟨pm,.refl _,h,fun q _=>.sl _ _ _ _ hc hx⟩
  |so i o n=>
   simp only [mC] at h
   obtain ⟨⟨rfl,rfl,rfl,rfl,⟨e,sz,he⟩,hx⟩,h⟩:=h
   exact ⟨⟨pm.m,i::pm.z⟩,⟨fun _ _ h=>h,fun f hf=>List.mem_cons_of_mem _ hf⟩,h,fun q hq=>.frz _ _ _ _ he hx (hq.z _ (List.mem_cons_self ..))⟩
  |raw v=>
   simp only [mC] at h
   obtain ⟨⟨rfl,rfl,rfl⟩,h⟩:=h
   exact ⟨pm,.refl _,h,fun q _=>.a08 _⟩
  |_=>simp [mC] at h
 |.fn f cs,c',pm,K,h=>by
  cases c' with
  |fn f' cs'=>
   simp only [mC] at h
   obtain ⟨rfl,h⟩:=h
   obtain ⟨p,h1,h2,h3⟩:=a9W cs cs' pm K h
   exact ⟨p,h1,h2,fun q hq=>.fn _ _ _ (h3 q hq).1 (h3 q hq).2⟩
  |_=>simp [mC] at h
 |.pv t r j,c',pm,K,h=>by
  cases c' with
  |pv t' r' j'=>
   simp only [mC] at h
   obtain ⟨⟨rfl,rfl,rfl,hx⟩,h⟩:=h
   exact ⟨pm,.refl _,h,fun q _=>.pv _ _ _ hx⟩
  |_=>simp [mC] at h
 |.nw e sz xs,c',pm,K,h=>by cases c'<;>simp [mC] at h
theorem a9W {H:Heap}:∀(cs cs':List AC) (pm:PM) (K:PM->Prop),mL H cs cs' pm K->Got pm K fun q=>cs.length=cs'.length/\∀(k:Nat) c c',cs[k]?=some c->cs'[k]?=some c'->MC H q c c'
 |[],[],pm,K,h=>⟨pm,.refl _,by simpa [mL] using h,fun q _=>by simp⟩
 |[],_::_,pm,K,h=>by simp [mL] at h
 |_::_,[],pm,K,h=>by simp [mL] at h
 |c::cs,c'::cs',pm,K,h=>by
  simp only [mL] at h
  obtain ⟨p1,a1,a2,a3⟩:=c8O c c' pm _ h
  obtain ⟨p2,b1,b2,b3⟩:=a9W cs cs' p1 K a2
  refine ⟨p2,a1.trans b1,b2,fun q hq=>⟨by simp [(b3 q hq).1],fun k d d' hd hd'=>?_⟩⟩
  cases k with
  |zero=>
   simp at hd hd'
   subst hd hd'
   exact a3 q (b1.trans hq)
  |succ k=>exact (b3 q hq).2 k d d' (by simpa using hd) (by simpa using hd')
end
def MV (H:Heap) (pm:PM) (v v':AV):Prop:=v=.c .a0x\/(∃x y,v=.c x/\v'=.c y/\MC H pm x y)\/
 (∃xs ys,v=.g xs/\v'=.g ys/\xs.length=ys.length/\∀(k:Nat) c c',xs[k]?=some c->ys[k]?=some c'->MC H pm c c')\/
 ∃xs ys,v=.t xs/\v'=.t ys/\xs.length=ys.length/\∀(j:Nat) b cs b' cs',xs[j]?=some (b,cs)->ys[j]?=some (b',cs')->b=b'/\cs.length=cs'.length/\∀(k:Nat) c c',cs[k]?=some c->cs'[k]?=some c'->MC H pm c c'
theorem c8P {H:Heap}:∀{xs ys:List (Bool×List AC)} {pm:PM} {K:PM->Prop},mT H xs ys pm K->Got pm K fun q=>xs.length=ys.length/\∀(j:Nat) b cs b' cs',xs[j]?=some (b,cs)->ys[j]?=some (b',cs')->b=b'/\cs.length=cs'.length/\∀(k:Nat) c c',cs[k]?=some c->cs'[k]?=some c'->MC H q c c'
 |[],[],pm,K,h=>⟨pm,.refl _,h,fun q _=>by simp⟩
 |[],_::_,pm,K,h=>h.elim
 |(_,_)::_,[],pm,K,h=>h.elim
 |(b,cs)::r,(b',cs')::r',pm,K,h=>by
  obtain ⟨hb,h⟩:=h
  obtain ⟨p1,a1,a2,a3⟩:=a9W _ _ _ _ h
  obtain ⟨p2,b1,b2,b3⟩:=c8P a2
  refine ⟨p2,a1.trans b1,b2,fun q hq=>⟨by simp [(b3 q hq).1],fun j d ds d' ds' hd hd'=>?_⟩⟩
  cases j with
  |zero=>
   simp at hd hd'
   obtain ⟨rfl,rfl⟩:=hd
   obtain ⟨rfl,rfl⟩:=hd'
   exact ⟨hb,a3 q (b1.trans hq)⟩
  |succ j=>exact (b3 q hq).2 j d ds d' ds' (by simpa using hd) (by simpa using hd')
theorem c3y {H:Heap} {v v':AV} {pm:PM} {K:PM->Prop} (h:mV H v v' pm K):Got pm K fun q=>MV H q v v':=by
 unfold mV at h
 split at h
 ·exact ⟨pm,.refl _,h,fun q _=>.inl rfl⟩
 ·obtain ⟨p,h1,h2,h3⟩:=c8P h
  exact ⟨p,h1,h2,fun q hq=>.inr (.inr (.inr ⟨_,_,rfl,rfl,h3 q hq⟩))⟩
 ·obtain ⟨p,h1,h2,h3⟩:=c8O _ _ _ _ h
  exact ⟨p,h1,h2,fun q hq=>.inr (.inl ⟨_,_,rfl,rfl,h3 q hq⟩)⟩
 ·obtain ⟨p,h1,h2,h3⟩:=a9W _ _ _ _ h
  exact ⟨p,h1,h2,fun q hq=>.inr (.inr (.inl ⟨_,_,rfl,rfl,h3 q hq⟩))⟩
 ·exact h.elim
theorem c3z {st:St}:∀{sl:List (Nat×AV)} {pm:PM} {K:PM->Prop},mSl st sl pm K->Got pm K fun q=>∀d v,(d,v)∈sl->MV st.H q v (st.s d)
 |[],pm,K,h=>⟨pm,.refl _,h,fun q _=>by simp⟩
 |(d,v)::r,pm,K,h=>by
  obtain ⟨p1,a1,a2,a3⟩:=c3y h
  obtain ⟨p2,b1,b2,b3⟩:=c3z a2
  refine ⟨p2,a1.trans b1,b2,fun q hq d' v' hm=>?_⟩
  rcases List.mem_cons.1 hm with e|hm
  ·cases e;exact a3 q (b1.trans hq)
  ·exact b3 q hq d' v' hm
def MO (H:Heap) (pm:PM) (o:HO):Prop:=(∃ag es j,o.ob=.mp ag es/\a1w pm.m o.id=some (some j)/\H j=.mp ag es/\∀q∈es,a1Y q.2)\/∃e sz rows,o.ob=.arr e sz false rows/\((a1w pm.m o.id=some none/\rows=[])\/∃j rows',a1w pm.m o.id=some (some j)/\H j=.arr e sz false rows'/\
 rows.length=rows'.length/\∀(i:Nat) r r',rows[i]?=some r->rows'[i]?=some r'->r.length=r'.length/\∀(k:Nat) c c',r[k]?=some c->r'[k]?=some c'->MC H pm c c')
theorem b7F {H:Heap} {pm:PM} {c:AC} (h:a1Y c):MC H pm c c:=by
 cases h with
 |raw v=>exact .raw v
 |str l=>exact .str l
 |sl t cl xs ht h=>exact .sl _ _ _ _ (fun h=>h) h
theorem c8Q {H:Heap}:∀{rs rs':List (List AC)} {pm:PM} {K:PM->Prop},mR H rs rs' pm K->Got pm K fun q=>rs.length=rs'.length/\∀(i:Nat) r r',rs[i]?=some r->rs'[i]?=some r'->r.length=r'.length/\∀(k:Nat) c c',r[k]?=some c->r'[k]?=some c'->MC H q c c'
 |[],[],pm,K,h=>⟨pm,.refl _,h,fun q _=>by simp⟩
 |[],_::_,pm,K,h=>h.elim
 |_::_,[],pm,K,h=>h.elim
 |r::rs,r'::rs',pm,K,h=>by
  obtain ⟨p1,a1,a2,a3⟩:=a9W _ _ _ _ h
  obtain ⟨p2,b1,b2,b3⟩:=c8Q a2
  refine ⟨p2,a1.trans b1,b2,fun q hq=>⟨by simp [(b3 q hq).1],fun i s s' hs hs'=>?_⟩⟩
  cases i with
  |zero=>simp at hs hs';subst hs hs';exact a3 q (b1.trans hq)
  |succ i=>exact (b3 q hq).2 i s s' (by simpa using hs) (by simpa using hs')
theorem d6D {H:Heap} {o:HO} {pm:PM} {K:PM->Prop} (h:mO H o pm K):Got pm K fun q=>MO H q o:=by
 cases o with
 |map i ag es=>
  simp only [mO] at h
  split at h
  ·rename_i j hj
   exact ⟨pm,.refl _,h.2,fun q hq=>.inl ⟨ag,es,j,rfl,hq.m _ _ hj,h.1.1,h.1.2⟩⟩
  ·exact h.elim
 |rows i e sz xs=>
  simp only [mO] at h
  split at h
  ·rename_i j hj
   obtain ⟨⟨h1,h2⟩,h⟩:=h
   refine ⟨pm,.refl _,h,fun q hq=>.inr ⟨e,sz,xs,rfl,.inr ⟨j,xs,hq.m _ _ hj,h1,rfl,fun a r r' hr hr'=>?_⟩⟩⟩
   rw [hr] at hr';cases hr'
   refine ⟨rfl,fun k c c' hc hc'=>?_⟩
   rw [hc] at hc';cases hc'
   exact b7F (h2 r (List.mem_of_getElem? hr) c (List.mem_of_getElem? hc))
  ·rename_i hj
   obtain ⟨rfl,h⟩:=h
   exact ⟨pm,.refl _,h,fun q hq=>.inr ⟨e,sz,[],rfl,.inl ⟨hq.m _ _ hj,rfl⟩⟩⟩
  ·exact h.elim
 |var i e r=>
  simp only [mO] at h
  split at h
  ·rename_i j hj
   split at h
   ·rename_i e' sz' r' ho
    obtain ⟨⟨rfl,rfl⟩,h⟩:=h
    obtain ⟨p,h1,h2,h3⟩:=a9W _ _ _ _ h
    refine ⟨p,h1,h2,fun q hq=>.inr ⟨e,r.length,[r],rfl,.inr ⟨j,[r'],(h1.trans hq).m _ _ hj,ho,rfl,fun a s s' hs hs'=>?_⟩⟩⟩
    cases a with
    |zero=>simp at hs hs';subst hs hs';exact h3 q hq
    |succ a=>simp at hs
   ·exact h.elim
  ·exact h.elim
 |tab i e sz rr=>
  simp only [mO] at h
  split at h
  ·rename_i j hj
   split at h
   ·rename_i e' sz' rr' ho
    obtain ⟨⟨rfl,rfl⟩,h⟩:=h
    obtain ⟨p,h1,h2,h3⟩:=c8Q h
    exact ⟨p,h1,h2,fun q hq=>.inr ⟨e,sz,rr,rfl,.inr ⟨j,rr',(h1.trans hq).m _ _ hj,ho,h3 q hq⟩⟩⟩
   ·exact h.elim
  ·exact h.elim
 |snoc i e sz xs r=>
  simp only [mO] at h
  split at h
  ·rename_i j hj
   obtain ⟨r',⟨ho,hx⟩,h⟩:=h
   obtain ⟨p,h1,h2,h3⟩:=a9W _ _ _ _ h
   refine ⟨p,h1,h2,fun q hq=>.inr ⟨e,sz,xs++[r],rfl,.inr ⟨j,xs++[r'],(h1.trans hq).m _ _ hj,ho,by simp,fun a s s' hs hs'=>?_⟩⟩⟩
   rcases Nat.lt_trichotomy a xs.length with ha|ha|ha
   ·rw [List.getElem?_append_left ha] at hs hs'
    rw [hs] at hs';cases hs'
    refine ⟨rfl,fun k c c' hc hc'=>?_⟩
    rw [hc] at hc';cases hc'
    exact b7F (hx s (List.mem_of_getElem? hs) c (List.mem_of_getElem? hc))
   ·subst ha
    simp at hs hs'
    subst hs hs'
    exact h3 q hq
   ·rw [List.getElem?_eq_none (by simp;omega)] at hs
    cases hs
  ·exact h.elim
theorem a9X {H:Heap}:∀{hp:List HO} {pm:PM} {K:PM->Prop},mHo H hp pm K->Got pm K fun q=>∀o∈hp,MO H q o
 |[],pm,K,h=>⟨pm,.refl _,h,fun q _=>by simp⟩
 |o::r,pm,K,h=>by
  obtain ⟨p1,a1,a2,a3⟩:=d6D h
  obtain ⟨p2,b1,b2,b3⟩:=a9X a2
  refine ⟨p2,a1.trans b1,b2,fun q hq o' hm=>?_⟩
  rcases List.mem_cons.1 hm with rfl|hm
  ·exact a3 q (b1.trans hq)
  ·exact b3 q hq o' hm
theorem a5Y:∀{m:List (Id×Option Id)} {i:Id} {j:Option Id},a1w m i=some j->(i,j)∈m
 |[],_,_,h=>by cases h
 |(a,b)::r,i,j,h=>by
  unfold a1w at h
  split at h
  ·rename_i e;subst e;cases h;exact List.mem_cons_self ..
  ·exact List.mem_cons_of_mem _ (a5Y h)
theorem a5Z {m:List (Id×Option Id)} {i j:Id} (h:a1w m i=some (some j)):j∈images m:=List.mem_filterMap.2 ⟨(i,some j),a5Y h,rfl⟩
theorem a7t:∀{m:List (Id×Option Id)} {i i' j:Id},(images m).Nodup->a1w m i=some (some j)->a1w m i'=some (some j)->i=i'
 |[],_,_,_,_,h,_=>by cases h
 |(a,b)::r,i,i',j,hn,h,h'=>by
  have hn':(images r).Nodup:=by
   cases b with
   |none=>exact hn
   |some b=>simp only [images,List.filterMap_cons,List.nodup_cons] at hn;exact hn.2
  unfold a1w at h h'
  split at h<;>split at h'
  ·rename_i e e';rw [e,e']
  ·cases h
   simp only [images,List.filterMap_cons,List.nodup_cons] at hn
   exact (hn.1 (a5Z h')).elim
  ·cases h'
   simp only [images,List.filterMap_cons,List.nodup_cons] at hn
   exact (hn.1 (a5Z h)).elim
  ·exact a7t hn' h h'
theorem a7u:∀{hp:List HO} {i:Id},(a2s hp i).live=true->∃o∈hp,o.id=i/\a2s hp i=o.ob
 |[],i,h=>by
  unfold a2s at h
  split at h<;>cases h
 |o::r,i,h=>by
  unfold a2s at h ⊢
  split
  ·rename_i e;exact ⟨o,List.mem_cons_self ..,e.symm,rfl⟩
  ·rename_i e
   rw [if_neg e] at h
   obtain ⟨o',h1,h2⟩:=a7u h
   exact ⟨o',List.mem_cons_of_mem _ h1,h2⟩
theorem c3A:∀(hp:List HO) (k:Nat),a2s hp (0,k)≠.a0g
 |[],k=>by simp [a2s]
 |o::r,k=>by
  unfold a2s
  split
  ·cases o<;>simp [HO.ob]
  ·exact c3A r k
theorem b5Z:∀{hp:List HO} {i:Id},(∃o∈hp,o.id=i)->a2s hp i≠.a0g
 |[],_,h=>by simp at h
 |o::r,i,h=>by
  unfold a2s
  split
  ·cases o<;>simp [HO.ob]
  ·rename_i e
   obtain ⟨o',h1,h2⟩:=h
   rcases List.mem_cons.1 h1 with rfl|h1
   ·exact (e h2.symm).elim
   ·exact b5Z ⟨o',h1,h2⟩
theorem b96:∀{sl:List (Nat×AV)} {t:Nat},c7f sl t=.c .a0x\/(t,c7f sl t)∈sl
 |[],_=>.inl rfl
 |(d,v)::r,t=>by
  unfold c7f
  split
  ·rename_i e;subst e;exact .inr (List.mem_cons_self ..)
  ·exact (b96 (sl:=r)).imp id (List.mem_cons_of_mem _)
def a15 (ρ:Lies) (pm:PM):Lies:=fun i=>match a1w pm.m i with
 |some (some j)=>ρ j
 |_=>none
theorem d6E {C:Ctx P} {H Hv:Heap} {ρ:Lies} {pm:PM} {w:World} {F':Tag->Nat->Prop} (hH:a2B C H ρ w) (hF:∀t b,Fr C H ρ t b->F' t b) (hb:∀i j,a1w pm.m i=some j->Hv i≠.a0g)
  (hl:∀i j,a1w pm.m i=some (some j)->(H j).live=true) (hz:∀f e sz xs,f∈pm.z->H f=.arr e sz false xs->∀b c s,ρ f=some (b,c,s)->C.p<=b/\¬C.B b->F' .old b) {c c':AC} (h:MC H pm c c') :
  ∀{v:Value},a03 w (Fr C H ρ) H ρ c' v->a03 w F' Hv (a15 ρ pm) c v:=by
 induction h with
 |a0x c=>exact fun _=>.a0x _
 |raw v=>intro v h;cases h;exact .raw _
 |str l=>intro v h;cases h;exact .str _
 |so i i' o n hi=>
  intro v h
  cases h with
  |so _ _ _ _ hk hs=>
   refine .so _ _ _ _ (hb _ _ hi) fun _=>?_
   have:=hs (hl _ _ hi)
   unfold a2j a15 at *
   rw [hi];exact this
 |e1I i hi=>
  intro v h
  cases h
  refine .so _ _ _ _ (hb _ _ hi) fun _=>?_
  unfold a2j a15
  rw [hi]
  exact ⟨rfl,rfl,.nil⟩
 |pt i i' a b hi=>
  intro v h
  cases h with
  |pt _ _ _ _ hk hs=>
   refine .pt _ _ _ _ (hb _ _ hi) fun _=>?_
   obtain ⟨b',cap,sz,h1,h2⟩:=hs (hl _ _ hi)
   refine ⟨b',cap,sz,?_,h2⟩
   unfold a15
   rw [hi];exact h1
 |mr i i' hi=>
  intro v h
  cases h with
  |mr _ _ hk hs=>
   refine .mr _ _ (hb _ _ hi) fun _=>?_
   obtain ⟨b',cap,sz,h1,h2⟩:=hs (hl _ _ hi)
   refine ⟨b',cap,sz,?_,h2⟩
   unfold a15
   rw [hi];exact h1
 |sl t cl cl' xs hc hx=>
  intro v h
  cases h with
  |a08 _ _ _ h=>exact .a08 _ _ _ h
  |sl _ _ _ b o cap sz vs hb' hF' hcap hcl hrow hcell hone hrel=>
   exact .sl t cl xs b o cap sz vs hb' (hF t b hF') hcap (fun e=>hcl (hc e)) hrow hcell hone fun i j r c hi hj=>(hrel i j r c hi hj).b46 (hx r (List.mem_of_getElem? hi) c (List.mem_of_getElem? hj)) fun t b _ q=>hF t b q
 |frz i e sz xs hi hx hz'=>exact fun {v} h=>c3v hH h hi hx hF (hz i e sz xs hz' hi)
 |a08 t=>intro v h;cases h;exact .a08 _ _ _ .nil
 |fn f cs cs' hlen hcs ih=>
  intro v h
  cases h with
  |fn _ _ vs hs hv=>
   refine .fn f cs vs (by omega) fun k c hk=>?_
   have hk':k<cs'.length:=by have:=(List.getElem?_eq_some_iff.1 hk).1;omega
   exact ih k c cs'[k] hk (List.getElem?_eq_getElem hk') (hv k _ (List.getElem?_eq_getElem hk'))
 |pv t r j hr=>
  intro v h
  cases h with
  |pv _ _ _ b o vs hb' hF' hcell hrel=>
   refine .pv t r j b o vs hb' (hF t b hF') hcell fun k c hk=>?_
   have h1:=hrel k c hk
   have h2:=hr c (List.mem_of_getElem? hk)
   generalize vs k=u at h1
   cases h1 with
   |raw=>exact .raw _
   |str l=>exact .str l
   |a08 t cl _ h=>exact .a08 t cl _ h
   |sl t cl xs b o cap sz vs hb' hF' hcap hcl hrow hcell hone hrel=>
    exact .sl t cl xs b o cap sz vs hb' (hF t b hF') hcap hcl hrow hcell hone fun i j r c hi hj=>(hrel i j r c hi hj).old (h2 r (List.mem_of_getElem? hi) c (List.mem_of_getElem? hj)) fun b q=>hF _ b q
   |_=>exact h2.elim
theorem a2B.same {C:Ctx P} {H:Heap} {ρ:Lies} {w:World} (h:a2B C H ρ w) {id j:Id} (hi:(H id).mut=true) (hj:(H j).mut=true) {b c s c' s':Nat} (r:ρ id=some (b,c,s)) (r':ρ j=some (b,c',s')):id=j:=by
 rcases a3Q ⟨id,c,s,hi,r⟩ with _|_
 all_goals
  cases h1:H id with
  |arr e sz f rows=>
   rw [h1] at hi
   cases f with
   |true=>cases hi
   |false=>
    cases h2:H j with
    |arr e' sz' f' rows'=>exact h.inj id j e sz rows e' sz' f' rows' b c s c' s' h1 h2 r r'
    |mp ag es=>exact (h.apart h1 h2 r r').elim
    |_=>rw [h2] at hj;cases hj
  |mp ag es=>
   cases h2:H j with
   |arr e' sz' f' rows'=>exact (h.apart h2 h1 r' r).elim
   |mp ag' es'=>exact h.maps.inj id j ag es ag' es' b c s c' s' h1 h2 r r'
   |_=>rw [h2] at hj;cases hj
  |_=>rw [h1] at hi;cases hi
theorem a9Y {C C2:Ctx P} {H:Heap} {ρ:Lies} {w:World} {hp:List HO} {pm:PM} (hw:C2.w0=C.w0) (hG:C2.G=C.G) (hB:∀b,C2.B b->C.B b\/∃id cap s,(H id).mut=true/\ρ id=some (b,cap,s)/\id ∉ images pm.m/\id ∉ pm.z)
  (hK:∀b,C2.B b->w.heap[b]?=C2.K b) (hH:a2B C H ρ w) (g2:∀o∈hp,MO H pm o) (k1:(images pm.m).Nodup) (k2:∀f∈pm.z,f ∉ images pm.m) (k3:∀q∈pm.m,∃o∈hp,o.id=q.1) :
  a2B C2 (a2s hp) (a15 ρ pm) w/\(∀{c c':AC} {v:Value},MC H pm c c'->a03 w (Fr C H ρ) H ρ c' v->a03 w (Fr C2 (a2s hp) (a15 ρ pm)) (a2s hp) (a15 ρ pm) c v)/\(∀t b,Fr C H ρ t b->Fr C2 (a2s hp) (a15 ρ pm) t b)/\
   ∀b,Mut (a2s hp) (a15 ρ pm) b->∃i j cap s,a1w pm.m i=some (some j)/\(H j).mut=true/\ρ j=some (b,cap,s):=by
 obtain ⟨w0,hI,G,X,kX,B,K⟩:=C2
 simp only at hw hG hB hK
 subst hw hG
 generalize hC2:(⟨C.w0,hI,C.G,X,kX,B,K⟩:Ctx P)=C2
 have ep:C2.p=C.p:=by subst hC2;rfl
 have eG:C2.G=C.G:=by subst hC2;rfl
 have eB:C2.B=B:=by subst hC2;rfl
 have eK:C2.K=K:=by subst hC2;rfl
 have ew:C2.w0=C.w0:=by subst hC2;rfl
 clear hC2
 have hob:∀i e sz f rows,a2s hp i=.arr e sz f rows->f=false/\((a1w pm.m i=some none/\rows=[])\/∃j rows',a1w pm.m i=some (some j)/\H j=.arr e sz false rows'/\
   rows.length=rows'.length/\∀(i:Nat) r r',rows[i]?=some r->rows'[i]?=some r'->r.length=r'.length/\∀(k:Nat) c c',r[k]?=some c->r'[k]?=some c'->MC H pm c c'):=fun i e sz f rows hi=>by
  obtain ⟨o,h1,rfl,h3⟩:=a7u (hp:=hp) (i:=i) (by rw [hi];rfl)
  rcases g2 o h1 with ⟨ag,es,j,q1,_⟩|⟨e',sz',rows',q1,q2⟩
  ·rw [hi,q1] at h3;cases h3
  ·rw [hi,q1] at h3
   cases h3
   exact ⟨rfl,q2⟩
 have hom:∀i ag es,a2s hp i=.mp ag es->∃j,a1w pm.m i=some (some j)/\H j=.mp ag es/\∀q∈es,a1Y q.2:=fun i ag es hi=>by
  obtain ⟨o,h1,rfl,h3⟩:=a7u (hp:=hp) (i:=i) (by rw [hi];rfl)
  rcases g2 o h1 with ⟨ag,es,j,q1,q2,q3,q4⟩|⟨e',sz',rows',q1,q2⟩
  ·rw [hi,q1] at h3
   cases h3
   exact ⟨j,q2,q3,q4⟩
  ·rw [hi,q1] at h3;cases h3
 have b6U:∀b,Mut (a2s hp) (a15 ρ pm) b->∃i j cap s,a1w pm.m i=some (some j)/\(H j).mut=true/\ρ j=some (b,cap,s):=fun b m=>by
  rcases a3Q m with ⟨i,e,sz,rows,cap,s,q1,q2⟩|⟨i,ag,es,cap,s,q1,q2⟩
  ·rcases (hob i e sz false rows q1).2 with ⟨q3,_⟩|⟨j,rows',q3,q4,_⟩
   ·unfold a15 at q2;rw [q3] at q2;cases q2
   ·unfold a15 at q2;rw [q3] at q2
    exact ⟨i,j,cap,s,q3,by rw [q4];rfl,q2⟩
  ·obtain ⟨j,q3,q4,_⟩:=hom i ag es q1
   unfold a15 at q2;rw [q3] at q2
   exact ⟨i,j,cap,s,q3,by rw [q4];rfl,q2⟩
 have g0n:∀t b,Fr C H ρ t b->¬C2.B b:=fun t b q hb=>by
  rw [eB] at hb
  rcases hB b hb with h|⟨id,c,s,h1,h2,_⟩
  ·exact q.1.2 h
  ·exact q.2 ⟨id,c,s,h1,h2⟩
 have hF:∀t b,Fr C H ρ t b->Fr C2 (a2s hp) (a15 ρ pm) t b:=fun t b q=>⟨⟨by rw [ep,eG];exact q.1.1,g0n t b q⟩,fun hm=>by
  obtain ⟨i,j,cap,s,_,q2,q3⟩:=b6U b hm
  exact q.2 ⟨j,cap,s,q2,q3⟩⟩
 have hb:∀i j,a1w pm.m i=some j->a2s hp i≠.a0g:=fun i j q=>b5Z (k3 _ (a5Y q))
 have hl:∀i j,a1w pm.m i=some (some j)->(H j).live=true:=fun i j q=>by
  obtain ⟨o,o1,o2⟩:=k3 _ (a5Y q)
  simp only at o2
  rcases g2 o o1 with ⟨ag,es,j',q1,q2,q3,_⟩|⟨e,sz,rows,q1,q2⟩
  ·rw [o2,q] at q2;cases q2;rw [q3];rfl
  ·rw [o2,q] at q2
   rcases q2 with ⟨q2,_⟩|⟨j',rows',q2,q3,_⟩
   ·cases q2
   ·cases q2;rw [q3];rfl
 have hz:∀f e sz xs,f∈pm.z->H f=.arr e sz false xs->∀b c s,ρ f=some (b,c,s)->C.p<=b/\¬C.B b->Fr C2 (a2s hp) (a15 ρ pm) .old b:=fun f e0 sz0 xs0 hf hfa b c s q1 q2=>⟨⟨.inl (by rw [ep];exact q2.1),fun hb=>by
  rw [eB] at hb
  rcases hB b hb with h|⟨id,c',s',h1,h2,_,h4⟩
  ·exact q2.2 h
  ·have:=hH.same h1 (by rw [hfa];rfl) h2 q1
   subst this
   exact h4 hf⟩,fun hm=>by
  obtain ⟨i,j,cap,s',q3,q4,q5⟩:=b6U b hm
  have:j=f:=by
   cases ho:H j with
   |arr e sz fz rows=>
    rw [ho] at q4
    cases fz with
    |false=>exact hH.inj j f e sz rows e0 sz0 false xs0 b cap s' c s ho hfa q5 q1
    |true=>cases q4
   |mp ag es=>exact (hH.apart hfa ho q1 q5).elim
   |_=>rw [ho] at q4;cases q4
  subst this
  exact k2 j hf (a5Z q3)⟩
 have tr:∀{c c':AC} {v:Value},MC H pm c c'->a03 w (Fr C H ρ) H ρ c' v->a03 w (Fr C2 (a2s hp) (a15 ρ pm)) (a2s hp) (a15 ρ pm) c v:=fun hm hv=>d6E hH hF hb hl hz hm hv
 refine ⟨⟨by rw [ep,ew];exact hH.below,fun i e sz f rows hi=>?_,fun i i' e sz rows e' sz' f' rows' b c s c' s' hi hi' q q'=>?_,?_,⟨fun i ag es q=>by
  obtain ⟨j,q1,q2,q3⟩:=hom i ag es q
  obtain ⟨b,c,s,E,e1,e2,e3,e4,e5⟩:=hH.maps.row j ag es q2
  refine ⟨b,c,s,E,by unfold a15;rw [q1];exact e1,by rw [ep];exact e2,e3,e4,fun n key x hn=>?_⟩
  obtain ⟨m,m1,m2,m3,m4⟩:=e5 n key x hn
  exact ⟨m,m1,m2,m3,tr (b7F (q3 _ (List.mem_of_getElem? hn))) m4⟩,fun i1 i2 a1 e1 a2 e2 b c s c' s' q1 q2 r1 r2=>by
  obtain ⟨j1,p1,p2,_⟩:=hom i1 a1 e1 q1
  obtain ⟨j2,p3,p4,_⟩:=hom i2 a2 e2 q2
  unfold a15 at r1 r2
  rw [p1] at r1
  rw [p3] at r2
  have:=hH.maps.inj j1 j2 a1 e1 a2 e2 b c s c' s' p2 p4 r1 r2
  subst this
  exact a7t k1 p1 p3,fun b hb=>⟨by
  rw [eB] at hb
  rcases hB b hb with h|⟨id,c,s,h1,h2,_⟩
  ·exact (hH.maps.there b h).1
  ·exact (hH.b5b ⟨id,c,s,h1,h2⟩).2,by rw [eK];exact hK b (by rw [<-eB];exact hb)⟩,fun i b c s l r hb=>by
  rw [eB] at hb
  have fin:∀j,a1w pm.m i=some (some j)->(H j).mut=true->(H j).live=true->ρ j=some (b,c,s)->False:=fun j q3 q4 q5 r=>by
   rcases hB b hb with h|⟨id,c',s',h1,h2,h3,_⟩
   ·exact hH.maps.not j b c s q5 r h
   ·have:=hH.same h1 q4 h2 r
    subst this
    exact h3 (a5Z q3)
  cases ho:a2s hp i with
  |arr e sz f rows=>
   rcases (hob i e sz f rows ho).2 with ⟨q3,_⟩|⟨j,rows',q3,q4,_⟩
   ·unfold a15 at r;rw [q3] at r;cases r
   ·unfold a15 at r;rw [q3] at r
    exact fin j q3 (by rw [q4];rfl) (by rw [q4];rfl) r
  |mp ag es=>
   obtain ⟨j,q3,q4,_⟩:=hom i ag es ho
   unfold a15 at r;rw [q3] at r
   exact fin j q3 (by rw [q4];rfl) (by rw [q4];rfl) r
  |_=>rw [ho] at l;cases l⟩⟩,tr,hF,b6U⟩
 ·obtain ⟨rfl,q⟩:=hob i e sz f rows hi
  rcases q with ⟨q1,rfl⟩|⟨j,rows',q1,q2,q3,q4⟩
  ·exact ⟨by simp,.inl ⟨by unfold a15;rw [q1],rfl⟩⟩
  ·have hj:=hH.row j e sz false rows' q2
   have e1:a15 ρ pm i=ρ j:=by unfold a15;rw [q1]
   have get:∀(k:Nat) r,rows[k]?=some r->∃r',rows'[k]?=some r'/\r.length=r'.length/\∀(a:Nat) c c',r[a]?=some c->r'[a]?=some c'->MC H pm c c':=fun k r hk=>by
    have hk':k<rows'.length:=by have:=(List.getElem?_eq_some_iff.1 hk).1;omega
    obtain ⟨g1,g2⟩:=q4 k r rows'[k] hk (List.getElem?_eq_getElem hk')
    exact ⟨_,List.getElem?_eq_getElem hk',g1,g2⟩
   refine ⟨fun k r hk=>?_,?_⟩
   ·obtain ⟨r',g1,g2,_⟩:=get k r hk
    rw [g2];exact hj.a3p k r' g1
   ·rcases hj.lies with ⟨g1,g2⟩|⟨b,cap,cur,g1,g2,g3,g4,g5,g6,g7⟩
    ·subst g2
     exact .inl ⟨by rw [e1,g1],List.eq_nil_of_length_eq_zero (by simpa using q3)⟩
    ·refine .inr ⟨b,cap,cur,by rw [e1,g1],by rw [ep];exact g2,g3,by omega,g5,g6,fun k a r c hk ha=>?_⟩
     obtain ⟨r',f1,f2,f3⟩:=get k r hk
     have ha':a<r'.length:=by have:=(List.getElem?_eq_some_iff.1 ha).1;omega
     obtain ⟨v,v1,v2,v3⟩:=g7 k a r' r'[a] f1 (List.getElem?_eq_getElem ha')
     exact ⟨v,v1,v2,tr (f3 a c r'[a] ha (List.getElem?_eq_getElem ha')) v3⟩
 ·rcases (hob i _ _ _ _ hi).2 with ⟨q3,_⟩|⟨j,r1,q3,q4,_⟩
  ·unfold a15 at q;rw [q3] at q;cases q
  ·obtain ⟨rfl,q5⟩:=hob i' _ _ _ _ hi'
   rcases q5 with ⟨q5,_⟩|⟨j',r2,q5,q6,_⟩
   ·unfold a15 at q';rw [q5] at q';cases q'
   ·unfold a15 at q q'
    rw [q3] at q
    rw [q5] at q'
    have:=hH.inj j j' _ _ _ _ _ _ _ b c s c' s' q4 q6 q q'
    subst this
    exact a7t k1 q3 q5
 ·have:∀l:List HO,∃N,∀k d,N<=k->a2s l (k,d)=.a0g:=fun l=>by
   induction l with
   |nil=>exact ⟨1,fun k d hk=>by simp [a2s];omega⟩
   |cons o r ih=>
    obtain ⟨N,hN⟩:=ih
    refine ⟨N+o.id.1+1,fun k d hk=>?_⟩
    unfold a2s
    rw [if_neg (fun e=>by rw [<-e] at hk;simp at hk;omega)]
    exact hN k d (by omega)
  exact this hp
theorem c3B {w:World} {F F':Tag->Nat->Prop} {H Hv:Heap} {ρ ρ':Lies} {pm:PM} (tr:∀{c c':AC} {v:Value},MC H pm c c'->a03 w F H ρ c' v->a03 w F' Hv ρ' c v) {x y:AV} {u:Value} (hm:MV H pm x y) (h:a3u w F H ρ y u):a3u w F' Hv ρ' x u:=by
 have cells:∀(xs ys:List AC) (vs:Array Value),vs.size=ys.length->xs.length=ys.length->(∀(k:Nat) c c',xs[k]?=some c->ys[k]?=some c'->MC H pm c c')->(∀(k:Nat) c,ys[k]?=some c->a03 w F H ρ c (vs.getD k undef))->
   vs.size=xs.length/\∀(k:Nat) c,xs[k]?=some c->a03 w F' Hv ρ' c (vs.getD k undef):=fun xs ys vs h1 h2 h3 h4=>⟨by omega,fun k c hk=>by
  have hk':k<ys.length:=by have:=(List.getElem?_eq_some_iff.1 hk).1;omega
  exact tr (h3 k c ys[k] hk (List.getElem?_eq_getElem hk')) (h4 k _ (List.getElem?_eq_getElem hk'))⟩
 rcases hm with h1|⟨x,y,rfl,rfl,h3⟩|⟨xs,ys,rfl,rfl,h3,h4⟩|⟨xs,ys,rfl,rfl,h3,h4⟩
 ·rw [h1];exact .c _ _ (.a0x _)
 ·exact .c _ _ (tr h3 (a0D h))
 ·cases h with
  |g _ vs hs hv=>
   obtain ⟨q1,q2⟩:=cells xs ys vs hs h3 h4 hv
   exact .g xs vs q1 q2
 ·cases h with
  |t _ vs hs hv=>
   refine .t xs vs (by omega) fun j b cs hj=>?_
   have hj':j<ys.length:=by have:=(List.getElem?_eq_some_iff.1 hj).1;omega
   obtain ⟨b',cs',hy'⟩:∃b' cs',ys[j]?=some (b',cs'):=⟨ys[j].1,ys[j].2,List.getElem?_eq_getElem hj'⟩
   obtain ⟨rfl,g1,g2⟩:=h4 j b cs b' cs' hj hy'
   have:=hv j b cs' hy'
   generalize vs.getD j undef=u at this
   cases this with
   |c x _ hx=>
    match cs,g1 with
    |[y],_=>exact .c _ _ (tr (g2 0 y x rfl rfl) hx)
   |g _ us hu hh=>
    obtain ⟨q1,q2⟩:=cells cs cs' us hu g1 g2 hh
    exact .g _ _ q1 q2
theorem b97 {H:Heap} {ρ:Lies} {hp:List HO} {pm:PM} (g2:∀o∈hp,MO H pm o) (k4:pmA pm.m) (k:Nat):a2s hp (0,k)≠.a0g/\((a2s hp (0,k)).live=true->(H (0,k)).live=true/\a15 ρ pm (0,k)=ρ (0,k)):=by
 refine ⟨c3A hp k,fun hl=>?_⟩
 obtain ⟨o,o1,o2,o3⟩:=a7u hl
 have key:∀j,a1w pm.m (0,k)=some j->j=some (0,k):=fun j hj=>c3x k4 _ _ (a5Y hj) rfl
 rcases g2 o o1 with ⟨ag,es,j,q1,q2,q3,_⟩|⟨e,sz,rows,q1,⟨q2,_⟩|⟨j,rows',q2,q3,_⟩⟩
 ·rw [o2] at q2
  cases key _ q2
  exact ⟨by rw [q3];rfl,by unfold a15;rw [q2]⟩
 ·rw [o2] at q2
  cases key _ q2
 ·rw [o2] at q2
  cases key _ q2
  exact ⟨by rw [q3];rfl,by unfold a15;rw [q2]⟩
def c53:List HO->List (Id×Option Id)
 |[]=>[]
 |o::r=>if o.id.1=0 then (o.id,some o.id)::c53 r else c53 r
theorem a0b {sl:List (Nat×AV)} {hp:List HO} {T:Nat} {st:St} (hn:st.n=true) (h:mSl st sl ⟨c53 hp,[]⟩ fun pm=>mHo st.H hp pm fun pm=>d2D hp pm/\pmA pm.m):a9c P (mkS sl hp T) st:=by
 refine .inr ⟨hn,fun C hC ρ a w hr=>?_⟩
 obtain ⟨p1,_,h,g1⟩:=c3z h
 obtain ⟨pm,l1,⟨⟨k1,k2,k3⟩,k4⟩,g2⟩:=a9X h
 replace k2:=b94 k2
 replace k3:=a7s k3
 replace g1:=g1 pm l1
 replace g2:=g2 pm (.refl _)
 obtain ⟨hR,tr,hF,_⟩:=a9Y (C2:=C) rfl rfl (fun b hb=>.inl hb) (fun b hb=>(hr.heap.maps.there b hb).2) hr.heap g2 k1 k2 k3
 have outer:=b97 (ρ:=ρ) g2 k4
 refine ⟨a15 ρ pm,⟨hR,fun t=>?_,hr.a7T,hC hF outer hr.ghost,fun _=>hC⟩⟩
 ·show a3u w _ _ _ (c7f sl t) _
  rcases b96 (sl:=sl) (t:=t) with h0|h0
  ·rw [h0];exact .c _ _ (.a0x _)
  ·have:=hr.slot t
   generalize a.tmps.getD t undef=u at this
   exact c3B tr (g1 t _ h0) this
open Go
variable {P:Program} {F:CT} {st:St}
theorem vl {ι:Type} (I:ι->Prop) (v:ι->St) (μ:ι->Nat) (i:ι) {x:SC} {Q:AEx->St->Prop} (hi:I i) (h0:a9c P (v i) st)
  (h:∀i,I i->∀J:St->Prop,(∀j,I j->μ j<μ i->∀s,a9c P (v j) s->J s)->a2S P F x (a4C J Q) (v i)):a2S P F (.loop x) Q st:=
 ⟨{i // I i},fun i=>v i.1,fun i=>μ i.1,⟨i,hi⟩,h0,fun i=>a1p (h i.1 i.2 _ fun j hj hlt s hs=>⟨⟨j,hj⟩,hlt,hs⟩)⟩
theorem vs {ι:Type} (I:ι->Prop) (v:ι->St) {x y:SC} {Q:AEx->St->Prop} (h1:∀J:St->Prop,(∀j,I j->∀s,a9c P (v j) s->J s)->a2S P F x (a4C J Q) st) (h2:∀j,I j->a6G P F y Q (v j)):a6G P F (.seq x y) Q st:=by
 show a6G P F x _ st
 refine a2F (fun e st' q=>?_) (a1p (h1 (fun s=>∃j,I j/\a9c P (v j) s) fun j hj s hs=>⟨j,hj,hs⟩))
 cases e with
 |normal=>obtain ⟨j,g1,g2⟩:=q;exact ⟨v j,g2,h2 j g1⟩
 |_=>exact q
section
variable {sl:List (Nat×AV)} {hp:List HO} {T:Nat} {pm:PM} {K:PM->Prop} {H:Heap} {m:List (Id×Option Id)} {z:List Id} {i j:Id} {o:Option Id}
@[simp] theorem f7H:(mkS sl hp T).s=c7f sl:=(rfl)
@[simp] theorem f7I:(mkS sl hp T).H=a2s hp:=(rfl)
@[simp] theorem f7J:(mkS sl hp T).T=T:=(rfl)
@[simp] theorem f4T {d t:Nat} {v:AV} {r:List (Nat×AV)}:c7f ((d,v)::r) t=if t=d then v else c7f r t:=(rfl)
@[simp] theorem f4U:a2s [] i=if i.1=0 then .dead else .a0g:=(rfl)
@[simp] theorem f4V {e sz:Nat} {xs:List (List AC)} {r:List HO}:a2s (.rows i e sz xs::r) j=if j=i then .arr e sz false xs else a2s r j:=(rfl)
@[simp] theorem f4W {e:Nat} {c:List AC} {r:List HO}:a2s (.var i e c::r) j=if j=i then .arr e c.length false [c] else a2s r j:=(rfl)
@[simp] theorem f4X {e sz:Nat} {rr:List (List AC)} {r:List HO}:a2s (.tab i e sz rr::r) j=if j=i then .arr e sz false rr else a2s r j:=(rfl)
theorem d6F:bd i o ⟨m,z⟩ K=match a1w m i with
 |none=>K ⟨(i,o)::m,z⟩
 |some j'=>o=j'/\K ⟨m,z⟩:=rfl
theorem d6G (h:a1w m i=none):bd i o ⟨m,z⟩ K=K ⟨(i,o)::m,z⟩:=by rw [d6F,h]
theorem d6H {o':Option Id} (h:a1w m i=some o'):bd i o ⟨m,z⟩ K=(o=o'/\K ⟨m,z⟩):=by rw [d6F,h]
@[simp] theorem f4Y:c53 []=[]:=(rfl)
@[simp] theorem f4Z {o:HO} {r:List HO}:c53 (o::r)=if o.id.1=0 then (o.id,some o.id)::c53 r else c53 r:=(rfl)
@[simp] theorem f7K:mSl st [] pm K=K pm:=(rfl)
@[simp] theorem f7L {d:Nat} {v:AV} {r:List (Nat×AV)}:mSl st ((d,v)::r) pm K=mV st.H v (st.s d) pm fun pm=>mSl st r pm K:=(rfl)
@[simp] theorem f7M:mHo H [] pm K=K pm:=(rfl)
@[simp] theorem f7N {o:HO} {r:List HO}:mHo H (o::r) pm K=mO H o pm fun pm=>mHo H r pm K:=(rfl)
@[simp] theorem g0Q {x y:AC}:mV H (.c x) (.c y) pm K=mC H x y pm K:=by
 cases x<;>first|rfl|simp [mV,mC]
@[simp] theorem g0R {xs ys:List AC}:mV H (.g xs) (.g ys) pm K=mL H xs ys pm K:=(rfl)
@[simp] theorem g0S:mL H [] [] pm K=K pm:=by simp [mL]
@[simp] theorem g0T {c c':AC} {r r':List AC}:mL H (c::r) (c'::r') pm K=mC H c c' pm fun pm=>mL H r r' pm K:=by simp [mL]
@[simp] theorem e8c {c:AC}:mC H .a0x c pm K=K pm:=by simp [mC]
@[simp] theorem f5a {v v':Value}:mC H (.raw v) (.raw v') pm K=(v=v'/\K pm):=by simp [mC]
@[simp] theorem f5b {v v':List UInt8}:mC H (.str v) (.str v') pm K=(v=v'/\K pm):=by simp [mC]
@[simp] theorem f7O {a b a' b':Nat}:mC H (.so i a b) (.so j a' b') pm K=((a=a'/\b=b')/\bd i (some j) pm K):=by simp [mC]
@[simp] theorem f5c {a b:Nat} {v:Value}:mC H (.so i a b) (.raw v) pm K=((v=.slice none 0 0/\a=0/\b=0)/\bd i none pm K):=by simp [mC]
@[simp] theorem f7P {a b a' b':Nat}:mC H (.pt i a b) (.pt j a' b') pm K=((a=a'/\b=b')/\bd i (some j) pm K):=by simp [mC]
@[simp] theorem f7Q {t t':Tag} {cl cl':Bool} {xs xs':List (List AC)}:mC H (.sl t cl xs) (.sl t' cl' xs') pm K=((t=t'/\(cl=true->cl'=true)/\xs=xs'/\a2x xs)/\K pm):=by simp [mC]
@[simp] theorem f5d {t:Tag} {cl:Bool} {xs:List (List AC)} {o n:Nat}:mC H (.sl t cl xs) (.so i o n) ⟨m,z⟩ K=((t=.old/\cl=false/\o=0/\n=xs.length/\(∃e sz,H i=.arr e sz false xs)/\a2x xs)/\K ⟨m,i::z⟩):=by simp [mC]
@[simp] theorem f5e {t:Tag} {cl:Bool} {xs:List (List AC)} {v:Value}:mC H (.sl t cl xs) (.raw v) pm K=((v=.slice none 0 0/\cl=false/\xs=[])/\K pm):=by simp [mC]
@[simp] theorem f7R {f f':FuncId} {cs cs':List AC}:mC H (.fn f cs) (.fn f' cs') pm K=(f=f'/\mL H cs cs' pm K):=by simp [mC]
def atR (H:Heap) (e sz:Nat) (xs:List (List AC)) (K:Prop):Option (Option Id)->Prop
 |some (some j)=>(H j=.arr e sz false xs/\a2x xs)/\K
 |some none=>xs=[]/\K
 |none=>False
@[simp] theorem g0U {e sz:Nat} {xs:List (List AC)}:mO H (.rows i e sz xs) pm K=atR H e sz xs (K pm) (a1w pm.m i):=by
 simp only [mO];split<;>simp_all [atR]
@[simp] theorem f7S {e sz:Nat} {xs:List (List AC)} {K:Prop}:atR H e sz xs K (some (some j))=((H j=.arr e sz false xs/\a2x xs)/\K):=(rfl)
@[simp] theorem f7T {e sz:Nat} {xs:List (List AC)} {K:Prop}:atR H e sz xs K (some none)=(xs=[]/\K):=(rfl)
def atO (H:Heap) (e:Nat) (r:List AC) (pm:PM) (K:PM->Prop):OK->Prop
 |.arr e' sz' false [r']=>(e=e'/\sz'=r.length)/\mL H r r' pm K
 |_=>False
def atV (H:Heap) (e:Nat) (r:List AC) (pm:PM) (K:PM->Prop):Option (Option Id)->Prop
 |some (some j)=>atO H e r pm K (H j)
 |_=>False
@[simp] theorem g0V {e:Nat} {r:List AC}:mO H (.var i e r) pm K=atV H e r pm K (a1w pm.m i):=by
 simp only [mO]
 rcases a1w pm.m i with _|_|j
 ·rfl
 ·rfl
 ·rcases h:H j with _|_|⟨e',sz',f,rows⟩<;>simp only [atV,atO,h]
  all_goals (rcases rows with _|⟨r',_|⟨r2,rest⟩⟩<;>cases f<;>rfl)
@[simp] theorem f7U {e:Nat} {r:List AC}:atV H e r pm K (some (some j))=atO H e r pm K (H j):=(rfl)
@[simp] theorem f7V {e e' sz':Nat} {r r':List AC}:atO H e r pm K (.arr e' sz' false [r'])=((e=e'/\sz'=r.length)/\mL H r r' pm K):=(rfl)
def e2Q (H:Heap) (e sz:Nat) (rr:List (List AC)) (pm:PM) (K:PM->Prop):OK->Prop
 |.arr e' sz' false rr'=>(e=e'/\sz=sz')/\mR H rr rr' pm K
 |_=>False
def atT (H:Heap) (e sz:Nat) (rr:List (List AC)) (pm:PM) (K:PM->Prop):Option (Option Id)->Prop
 |some (some j)=>e2Q H e sz rr pm K (H j)
 |_=>False
@[simp] theorem g0W {e sz:Nat} {rr:List (List AC)}:mO H (.tab i e sz rr) pm K=atT H e sz rr pm K (a1w pm.m i):=by
 simp only [mO]
 rcases a1w pm.m i with _|_|j
 ·rfl
 ·rfl
 ·rcases h:H j with _|_|⟨e',sz',f,rows⟩<;>simp only [atT,e2Q,h]
  all_goals (cases f<;>rfl)
@[simp] theorem f7W {e sz:Nat} {rr:List (List AC)}:atT H e sz rr pm K (some (some j))=e2Q H e sz rr pm K (H j):=(rfl)
@[simp] theorem f5f {e sz e' sz':Nat} {rr rr':List (List AC)}:e2Q H e sz rr pm K (.arr e' sz' false rr')=((e=e'/\sz=sz')/\mR H rr rr' pm K):=(rfl)
@[simp] theorem g0X:mR H [] [] pm K=K pm:=(rfl)
@[simp] theorem g0Y {r r':List AC} {rs rs':List (List AC)}:mR H (r::rs) (r'::rs') pm K=mL H r r' pm fun pm=>mR H rs rs' pm K:=(rfl)
@[simp] theorem e8d:a1w [] i=none:=(rfl)
@[simp] theorem e8e {m:List (Id×Option Id)}:a1w ((j,o)::m) i=if i=j then some o else a1w m i:=(rfl)
@[simp] theorem d2E:a2x []=True:=by simp [a2x]
@[simp] theorem d0F {α:Type} [Enc α] {l:List α}:a2x (a0a l)=True:=by simp only [a2x,eq_iff_iff];exact c3j
@[simp] theorem d2F {a b:List (List AC)}:a2x (a++b)=(a2x a/\a2x b):=by simp only [a2x,List.mem_append,or_imp,forall_and]
@[simp] theorem e2R {r:List AC} {l:List (List AC)}:a2x (r::l)=((∀c∈r,a1Y c)/\a2x l):=by simp only [a2x,List.mem_cons,or_imp,forall_and,forall_eq]
theorem a2G {α:Type} [Enc α] (a:α) (l:List α):a0a (a::l)=Enc.row a::a0a l:=by simp [a0a]
@[simp] theorem e2S:images []=[]:=(rfl)
@[simp] theorem e2T {m:List (Id×Option Id)}:images ((i,some j)::m)=j::images m:=(rfl)
@[simp] theorem e2U {m:List (Id×Option Id)}:images ((i,none)::m)=images m:=(rfl)
end
attribute [simp] a5N a5O a4G d6G d6H d2D HO.id b5Y c3w pmZ pmA
open Go
variable {P:Program}
structure VFr (C:Ctx P) (hp hp':List HO) (ρ ρ':Lies) (w w':World):Prop where
 size:w.heap.size<=w'.heap.size
 blk:∀t b,Fr C (a2s hp) ρ t b->b<w.heap.size->Fr C (a2s hp') ρ' t b/\w'.heap[b]?=w.heap[b]?
 own:∀k,(a2s hp' (0,k)).live=true->(a2s hp (0,k)).live=true/\ρ' (0,k)=ρ (0,k)
def nmC (hp:List HO):AC->Prop
 |.raw _|.str _|.a0x=>True
 |.so i _ _|.pt i _ _|.mr i=>b5Y hp i
 |.sl t _ xs=>t≠.brw/\a2x xs
 |_=>False
def HO.ok (hp:List HO):HO->Prop
 |.rows _ _ _ xs=>a2x xs
 |.var _ _ r=>∀c∈r,nmC hp c
 |.snoc _ _ _ xs r=>a2x xs/\∀c∈r,nmC hp c
 |.map _ _ es=>∀q∈es,a1Y q.2
 |.tab _ _ _ rr=>∀r∈rr,∀c∈r,nmC hp c
def d2G (hp:List HO):List HO->Prop
 |[]=>True
 |o::r=>o.ok hp/\d2G hp r
theorem b98 {hp:List HO}:∀{l:List HO},d2G hp l->∀o∈l,o.ok hp
 |[],_,o,h=>by simp at h
 |a::r,h,o,hm=>by
  rcases List.mem_cons.1 hm with rfl|hm
  ·exact h.1
  ·exact b98 h.2 o hm
def takes (ret:AV) (hp':List HO):Prop:=(∀c∈ret.flat,nmC hp' c)/\d2G hp' hp'/\(hp'.map HO.id).Nodup
def VC (P:Program) (f:FuncId) (args:List AV) (hp:List HO) (ret:AV) (hp':List HO):Prop:=
 a4H P f=true/\takes ret hp'/\∀(C:Ctx P) (ρ:Lies) (w:World) (vs:Array Value),a2B C (a2s hp) ρ w->vs.size=args.length->
  (∀(k:Nat) x,args[k]?=some x->a3u w (Fr C (a2s hp) ρ) (a2s hp) ρ x (vs.getD k undef))->
  Calls P f vs w fun e w'=>∃v,e=.returned v/\∃ρ',a2B C (a2s hp') ρ' w'/\a3u w' (Fr C (a2s hp') ρ') (a2s hp') ρ' ret v/\VFr C hp hp' ρ ρ' w w'
def a9Z (args:List AV) (hp:List HO):St:={s:=fun t=>args.getD t (.c (.raw undef)),H:=a2s hp,T:=1,n:=true}
def e8f (P:Program) (fn:Func) (ret:AV) (hp':List HO) (e:AEx) (st:St):Prop:=
 (match e with|.normal|.ret=>True|_=>False)/\∃res,c08 P st fn.results.toList=some res/\mV st.H ret res ⟨c53 hp',[]⟩ fun pm=>mHo st.H hp' pm fun pm=>d2D hp' pm/\pmA pm.m
theorem a50 (hm:P.follows .mixedOrders=true) {F:CT} (hF:a1k P F) {f:FuncId} {fn:Func} {s:SC} {args:List AV} {hp hp':List HO} {ret:AV} (hf:P.funcs[f]?=some fn) (hs:a0q fn.body s=some (unK s,true))
  (hok:a0M a0p fn 0=true) (hle:Nat.ble args.length fn.ntmps=true) (htk:takes ret hp') (h:a6G P F s (e8f P fn ret hp') (a9Z args hp)):VC P f args hp ret hp':=by
 cases hb:fn.body with
 |none=>rw [hb] at hs;cases hs
 |some c=>
  rw [hb] at hs
  simp only [a0q,Option.map_some,Option.some.injEq,Prod.mk.injEq] at hs
  simp only [a0M,hb,Bool.and_eq_true,decide_eq_true_eq,bne_iff_ne,ne_eq] at hok
  obtain ⟨⟨hname,hcode⟩,_⟩:=hok
  have hle:=Nat.le_of_ble_eq_true hle
  refine ⟨by simp [a4H,hf,hb,hname],htk,fun C ρ w vs hr hsz hargs=>?_⟩
  let X:World->(Tag->Nat->Prop)->Heap->Lies->Prop:=fun w1 F H ρ1=>w.heap.size<=w1.heap.size/\(∀t b,Fr C (a2s hp) ρ t b->b<w.heap.size->F t b/\w1.heap[b]?=w.heap[b]?)/\
   ∀k,H (0,k)≠.a0g/\((H (0,k)).live=true->(a2s hp (0,k)).live=true/\ρ1 (0,k)=ρ (0,k))
  let C':Ctx P:=⟨C.w0,C.hI,C.G,X,fun k q=>⟨Nat.le_trans q.1 k.size,fun t b h1 h2=>by
   obtain ⟨g1,g2⟩:=q.2.1 t b h1 h2
   obtain ⟨g3,g4⟩:=k.blk t b g1 (Nat.lt_of_lt_of_le h2 q.1)
   exact ⟨g3,g4.trans g2⟩,fun i=>by
   obtain ⟨g1,g2⟩:=q.2.2 i
   obtain ⟨g3,g4⟩:=k.obj _ g1
   exact ⟨g3,fun l=>by
    obtain ⟨g5,g6⟩:=g4 l
    obtain ⟨g7,g8⟩:=g2 g5
    exact ⟨g7,g6.trans g8⟩⟩⟩,C.B,C.K⟩
  have f3S:C'.nice:=fun {w1 F F' H H' ρ1 ρ2} h1 h2 q=>⟨q.1,fun t b g1 g2=>⟨h1 t b (q.2.1 t b g1 g2).1,(q.2.1 t b g1 g2).2⟩,fun k=>⟨(h2 k).1,fun l=>by
   obtain ⟨g5,g6⟩:=(h2 k).2 l
   obtain ⟨g7,g8⟩:=(q.2.2 k).2 g5
   exact ⟨g7,g6.trans g8⟩⟩⟩
  have h0:Rel C' ρ (a9Z args hp) {tmps:=vs++Array.replicate (fn.ntmps-vs.size) undef,defers:=[]} w:=by
   refine ⟨hr.ctx X _,fun t=>?_,rfl,⟨Nat.le_refl _,fun t b g1 _=>⟨g1,rfl⟩,fun k=>⟨c3A hp k,fun l=>⟨l,rfl⟩⟩⟩,fun _=>f3S⟩
   simp only [a9Z]
   by_cases ht:t<args.length
   ·have h1:args[t]?=some (args.getD t (.c (.raw undef))):=by simp [ht]
    have h2:(vs++Array.replicate (fn.ntmps-vs.size) undef).getD t undef=vs.getD t undef:=by
     simp [Array.getD_eq_getD_getElem?,Array.getElem?_append,show t<vs.size by omega]
    rw [h2];exact hargs t _ h1
   ·have h1:args.getD t (.c (.raw undef))=.c (.raw undef):=by simp [List.getD,List.getElem?_eq_none (Nat.le_of_not_lt ht)]
    have h2:(vs++Array.replicate (fn.ntmps-vs.size) undef).getD t undef=undef:=by
     simp only [Array.getD_eq_getD_getElem?,Array.getElem?_append,show ¬t<vs.size by omega,if_false,Array.getElem?_replicate]
     split<;>rfl
    rw [h1,h2];exact .c _ _ (.raw _)
  refine calls_of_wp hf hb (Code.wp_mono (fun e a' w' q=>?_) (a2E a0p (a9O hm) c fn.ntmps _ ρ (a9Z args hp) _ w hcode (by simp;omega) h0 (a2r hF hs.1 hs.2 h)))
  have fin:a2h C' fn.ntmps (fun st=>∃res,c08 P st fn.results.toList=some res/\mV st.H ret res ⟨c53 hp',[]⟩ fun pm=>mHo st.H hp' pm fun pm=>d2D hp' pm/\pmA pm.m) a' w'->
    a'.defers=[]/\∃v,(results fn a'.tmps).run P w'=.ok v w'/\(∃v',Ending.returned v=.returned v'/\∃ρ',a2B C (a2s hp') ρ' w'/\a3u w' (Fr C (a2s hp') ρ') (a2s hp') ρ' ret v'/\VFr C hp hp' ρ ρ' w w'):=
   fun ⟨_,ρ1,st,hr',res,g1,g2⟩=>by
    obtain ⟨v,h1,h2⟩:=a5a hr' g1
    obtain ⟨p1,_,g3,g4⟩:=c3y g2
    obtain ⟨pm,l1,⟨⟨k1,k2,k3⟩,k4⟩,g5⟩:=a9X g3
    replace g5:=g5 pm (.refl _)
    obtain ⟨q1,tr,q2,_⟩:=a9Y (C2:=C') rfl rfl (fun b hb=>.inl hb) (fun b hb=>(hr'.heap.maps.there b hb).2) hr'.heap g5 k1 (b94 k2) (a7s k3)
    have outer:=b97 (ρ:=ρ1) g5 k4
    have gh:X w' _ _ _:=hr'.ghost
    refine ⟨hr'.a7T,v,h1,v,rfl,a15 ρ1 pm,q1.d6y,c3B tr (g4 pm l1) h2,gh.1,fun t b f1 f2=>?_,fun k l=>?_⟩
    ·obtain ⟨f3,f4⟩:=gh.2.1 t b f1 f2
     exact ⟨q2 t b f3,f4⟩
    ·obtain ⟨f1,f2⟩:=(outer k).2 l
     obtain ⟨f3,f4⟩:=(gh.2.2 k).2 f1
     exact ⟨f3,f2.trans f4⟩
  cases e with
  |normal=>exact fin (a2h.mono q fun st hs=>hs.2)
  |ret=>exact fin (a2h.mono q fun st hs=>hs.2)
  |exit id=>
   obtain ⟨_,_,_,_,hs⟩:=q
   exact hs.1.elim
  |_=>exact q.elim
open Go
variable {P:Program}
def AC.ren (g:Id->Id):AC->AC
 |.so i o n=>.so (g i) o n
 |.pt i a b=>.pt (g i) a b
 |.mr i=>.mr (g i)
 |c=>c
def AV.ren (g:Id->Id):AV->AV
 |.c x=>.c (x.ren g)
 |.g xs=>.g (xs.map (AC.ren g))
 |.t ps=>.t (ps.map fun q=>(q.1,q.2.map (AC.ren g)))
def HO.ren (g:Id->Id):HO->OK
 |.rows _ e sz xs=>.arr e sz false xs
 |.var _ e r=>.arr e r.length false [r.map (AC.ren g)]
 |.snoc _ e sz xs r=>.arr e sz false (xs++[r.map (AC.ren g)])
 |.map _ ag es=>.mp ag es
 |.tab _ e sz rr=>.arr e sz false (rr.map fun r=>r.map (AC.ren g))
def gV (m:List (Id×Option Id)) (nm:Nat->Id):Id->Id:=fun i=>if i.1=0 then ((a1w m i).getD none).getD i else nm i.2
def a6T:List (Id×Option Id)->Heap->Heap
 |[],H=>H
 |(_,some j)::r,H=>hset (a6T r H) j .dead
 |(_,none)::r,H=>a6T r H
def c2l (g:Id->Id):List HO->Heap->Heap
 |[],H=>H
 |o::r,H=>hset (c2l g r H) (g o.id) (o.ren g)
def pmS:List (Id×Option Id)->Prop
 |[]=>True
 |(_,j)::r=>j.isSome=true/\pmS r
def a5F:List HO->List Nat
 |[]=>[]
 |o::r=>if o.id.1=0 then a5F r else o.id.2::a5F r
def e2V (H:Heap) (nm:Nat->Id):List Nat->Prop
 |[]=>True
 |k::r=>H (nm k)=.a0g/\e2V H nm r
def mAs (H:Heap):List AV->List AV->PM->(PM->Prop)->Prop
 |[],[],pm,K=>K pm
 |x::r,y::r',pm,K=>mV H x y pm fun pm=>mAs H r r' pm K
 |_,_,_,_=>False
theorem b7G {H:Heap}:∀{xs ys:List AV} {pm:PM} {K:PM->Prop},mAs H xs ys pm K->Got pm K fun q=>xs.length=ys.length/\∀(k:Nat) x y,xs[k]?=some x->ys[k]?=some y->MV H q x y
 |[],[],pm,K,h=>⟨pm,.refl _,h,fun q _=>by simp⟩
 |[],_::_,pm,K,h=>h.elim
 |_::_,[],pm,K,h=>h.elim
 |x::r,y::r',pm,K,h=>by
  obtain ⟨p1,a1,a2,a3⟩:=c3y h
  obtain ⟨p2,b1,b2,b3⟩:=b7G a2
  refine ⟨p2,a1.trans b1,b2,fun q hq=>⟨by simp [(b3 q hq).1],fun k u v hu hv=>?_⟩⟩
  cases k with
  |zero=>simp at hu hv;subst hu hv;exact a3 q (b1.trans hq)
  |succ k=>exact (b3 q hq).2 k u v (by simpa using hu) (by simpa using hv)
theorem a7v:∀(m:List (Id×Option Id)) (H:Heap) (id:Id),(id∈images m/\a6T m H id=.dead)\/(id ∉ images m/\a6T m H id=H id)
 |[],H,id=>.inr ⟨by simp [images],rfl⟩
 |(_,none)::r,H,id=>a7v r H id
 |(_,some j)::r,H,id=>by
  have h:=a7v r H id
  unfold a6T hset
  by_cases e:id=j
  ·subst e;exact .inl ⟨by simp [images],by simp⟩
  ·rw [if_neg e]
   rcases h with ⟨h1,h2⟩|⟨h1,h2⟩
   ·exact .inl ⟨List.mem_cons_of_mem _ h1,h2⟩
   ·exact .inr ⟨fun hm=>by
     rcases List.mem_cons.1 hm with rfl|hm
     ·exact e rfl
     ·exact h1 hm,h2⟩
theorem b2E (g:Id->Id):∀(l:List HO) (H:Heap) (id:Id),(∃o∈l,g o.id=id/\c2l g l H id=o.ren g)\/((∀o∈l,g o.id≠id)/\c2l g l H id=H id)
 |[],H,id=>.inr ⟨by simp,rfl⟩
 |o::r,H,id=>by
  have h:=b2E g r H id
  unfold c2l hset
  by_cases e:id=g o.id
  ·exact .inl ⟨o,List.mem_cons_self ..,e.symm,by rw [if_pos e]⟩
  ·rw [if_neg e]
   rcases h with ⟨o',h1,h2,h3⟩|⟨h1,h2⟩
   ·exact .inl ⟨o',List.mem_cons_of_mem _ h1,h2,h3⟩
   ·refine .inr ⟨fun o' ho=>?_,h2⟩
    rcases List.mem_cons.1 ho with rfl|ho
    ·exact fun q=>e q.symm
    ·exact h1 o' ho
theorem b2F:∀(m:List (Id×Option Id)) {H:Heap},(∃N,∀k d,N<=k->H (k,d)=.a0g)->∃N,∀k d,N<=k->a6T m H (k,d)=.a0g
 |[],H,h=>h
 |(_,none)::r,H,h=>b2F r h
 |(_,some j)::r,H,h=>a5l (b2F r h)
theorem c3C (g:Id->Id):∀(l:List HO) {H:Heap},(∃N,∀k d,N<=k->H (k,d)=.a0g)->∃N,∀k d,N<=k->c2l g l H (k,d)=.a0g
 |[],H,h=>h
 |o::r,H,h=>a5l (c3C g r h)
theorem c3D:∀{m:List (Id×Option Id)} {i:Id} {j:Option Id},pmS m->a1w m i=some j->∃j',j=some j'
 |[],_,_,_,h=>by cases h
 |(a,b)::r,i,j,hs,h=>by
  unfold a1w at h
  split at h
  ·cases h;exact Option.isSome_iff_exists.1 hs.1
  ·exact c3D hs.2 h
theorem a5e:∀{l:List HO} {o:HO},o∈l->o.id.1≠0->o.id.2∈a5F l
 |a::r,o,h,hn=>by
  unfold a5F
  rcases List.mem_cons.1 h with rfl|h
  ·rw [if_neg hn];exact List.mem_cons_self ..
  ·split
   ·exact a5e h hn
   ·exact List.mem_cons_of_mem _ (a5e h hn)
theorem b1m:∀{l:List HO},(a5F l).Nodup->∀{o o':HO},o∈l->o'∈l->o.id.1≠0->o'.id.1≠0->o.id.2=o'.id.2->o=o'
 |a::r,hn,o,o',h,h',n,n',e=>by
  unfold a5F at hn
  rcases List.mem_cons.1 h with rfl|g<;>rcases List.mem_cons.1 h' with rfl|g'
  ·rfl
  ·rw [if_neg n,List.nodup_cons] at hn
   exact (hn.1 (by rw [e];exact a5e g' n')).elim
  ·rw [if_neg n',List.nodup_cons] at hn
   exact (hn.1 (by rw [<-e];exact a5e g n)).elim
  ·refine b1m (l:=r) ?_ g g' n n' e
   split at hn
   ·exact hn
   ·exact (List.nodup_cons.1 hn).2
theorem b99 {H:Heap} {nm:Nat->Id}:∀{l:List Nat},e2V H nm l->∀k∈l,H (nm k)=.a0g
 |[],_,k,h=>by simp at h
 |a::r,h,k,hm=>by
  rcases List.mem_cons.1 hm with rfl|hm
  ·exact h.1
  ·exact b99 h.2 k hm
theorem b7H:∀{hp:List HO} {o:HO},(hp.map HO.id).Nodup->o∈hp->a2s hp o.id=o.ob
 |a::r,o,hn,h=>by
  unfold a2s
  rw [List.map_cons,List.nodup_cons] at hn
  rcases List.mem_cons.1 h with rfl|h
  ·rw [if_pos rfl]
  ·rw [if_neg (fun e=>hn.1 (by rw [<-e];exact List.mem_map.2 ⟨o,h,rfl⟩))]
   exact b7H hn.2 h
theorem c3E {o:OK} (h:o.live=true):o≠.a0g:=by rintro rfl;cases h
theorem b1n (o:HO):o.ob.mut=true:=by cases o<;>rfl
theorem b2G (o:HO):o.ob.live=true:=by cases o<;>rfl
theorem c0a (g:Id->Id) (o:HO):(o.ren g).live=true:=by cases o<;>rfl
theorem c7g {g:Id->Id} {o:HO} {hp:List HO} {e sz:Nat} {f:Bool} {rows:List (List AC)} (h:o.ren g=.arr e sz f rows) (ho:o.ok hp) {Q:AC->AC->Prop} (q1:∀c,a1Y c->Q c c) (q2:∀c,nmC hp c->Q c (c.ren g)) :
  ∃c5X,o.ob=.arr e sz false c5X/\f=false/\rows.length=c5X.length/\∀(i:Nat) r,rows[i]?=some r->∃r0,c5X[i]?=some r0/\r.length=r0.length/\∀(k:Nat) c,r[k]?=some c->∃c0,r0[k]?=some c0/\Q c0 c:=by
 have one:∀r0:List AC,(∀c∈r0,nmC hp c)->∀(k:Nat) c,(r0.map (AC.ren g))[k]?=some c->∃c0,r0[k]?=some c0/\Q c0 c:=fun r0 hr k c hk=>by
  rw [List.getElem?_map,Option.map_eq_some_iff] at hk
  obtain ⟨c0,h1,rfl⟩:=hk
  exact ⟨c0,h1,q2 c0 (hr c0 (List.mem_of_getElem? h1))⟩
 cases o with
 |rows i e' sz' xs=>
  cases h
  exact ⟨_,rfl,rfl,rfl,fun i r hr=>⟨r,hr,rfl,fun k c hc=>⟨c,hc,q1 c (ho r (List.mem_of_getElem? hr) c (List.mem_of_getElem? hc))⟩⟩⟩
 |var i e' r0=>
  cases h
  refine ⟨_,rfl,rfl,rfl,fun i r hr=>?_⟩
  obtain ⟨rfl,rfl⟩:=a2D hr
  exact ⟨r0,rfl,by simp,one r0 ho⟩
 |snoc i e' sz' xs r0=>
  cases h
  refine ⟨_,rfl,rfl,by simp,fun i r hr=>?_⟩
  rcases Nat.lt_trichotomy i xs.length with hi|hi|hi
  ·rw [List.getElem?_append_left hi] at hr ⊢
   exact ⟨r,hr,rfl,fun k c hc=>⟨c,hc,q1 c (ho.1 r (List.mem_of_getElem? hr) c (List.mem_of_getElem? hc))⟩⟩
  ·subst hi
   simp at hr
   subst hr
   exact ⟨r0,by simp,by simp,one r0 ho.2⟩
  ·rw [List.getElem?_eq_none (by simp;omega)] at hr
   cases hr
 |map i ag es=>cases h
 |tab i e' sz' rr=>
  cases h
  refine ⟨rr,rfl,rfl,by simp,fun i r hr=>?_⟩
  rw [List.getElem?_map,Option.map_eq_some_iff] at hr
  obtain ⟨r0,h1,rfl⟩:=hr
  exact ⟨r0,h1,by simp,one r0 (ho r0 (List.mem_of_getElem? h1))⟩
theorem c0b {c:AC} {b:Bool} {cs:List AC}:∀{xs:List (Bool×List AC)},(b,cs)∈xs->c∈cs->c∈a3q xs
 |(q1,q2)::r,h,hc=>by
  simp only [a3q,List.mem_append]
  rcases List.mem_cons.1 h with e|h
  ·cases e;exact .inl hc
  ·exact .inr (c0b h hc)
def mOk (H:Heap) (nm:Nat->Id) (hp hp':List HO) (pm:PM):Prop:=d2D hp pm/\pmS pm.m/\pm.z=[]/\(a5F hp').Nodup/\e2V H nm (a5F hp')
theorem b1o {f:FuncId} {b44:List AV} {hp hp':List HO} {ret:AV} (hv:VC P f b44 hp ret hp') {st:St} {dst:Option Nat} {args:List AV} {K:St->Prop} {pm:PM}
  (g1:b44.length=args.length/\∀(k:Nat) x y,b44[k]?=some x->args[k]?=some y->MV st.H pm x y) (g2:∀o∈hp,MO st.H pm o) (kk:mOk st.H (a2n st dst) hp hp' pm)
  (hk:K ((st.hto (c2l (gV pm.m (a2n st dst)) hp' (a6T pm.m st.H))).put dst (ret.ren (gV pm.m (a2n st dst))))):a7i P false st dst f args K:=by
 obtain ⟨hok,⟨tk1,tk2,tk3⟩,hgo⟩:=hv
 refine .inr ⟨rfl,hok,fun C ρ a w vs hr hsz hargs=>?_⟩
 obtain ⟨⟨k1,k2,k3⟩,k4,k5,k6,k7⟩:=kk
 replace k2:=b94 k2
 replace k3:=a7s k3
 replace tk2:=b98 tk2
 generalize hnm:a2n st dst=nm at *
 have f3T:∀i j,nm i=nm j->i=j:=by rw [<-hnm];exact b2n st dst
 let C2:Ctx P:=⟨C.w0,C.hI,C.G,fun _ _ _ _=>True,fun _ _=>trivial,fun b=>C.B b\/∃id cap s,(st.H id).mut=true/\ρ id=some (b,cap,s)/\id ∉ images pm.m/\id ∉ pm.z,fun b=>w.heap[b]?⟩
 obtain ⟨q1,tr,q2,q3⟩:=a9Y (C:=C) (C2:=C2) rfl rfl (fun b hb=>hb) (fun b _=>rfl) hr.heap g2 k1 k2 k3
 refine (hgo C2 (a15 ρ pm) w vs q1 (by rw [hsz,g1.1]) fun k x hx=>?_).mono ?_
 ·have hk':k<args.length:=by have:=(List.getElem?_eq_some_iff.1 hx).1;have:=g1.1;omega
  exact c3B tr (g1.2 k x args[k] hx (List.getElem?_eq_getElem hk')) (hargs k _ (List.getElem?_eq_getElem hk'))
 rintro e w' ⟨v,rfl,ρ1,r1,r2,fr⟩
 let g:=gV pm.m nm
 let H2:=c2l g hp' (a6T pm.m st.H)
 have outer:∀o∈hp',o.id.1=0->∃j,a1w pm.m o.id=some (some j)/\g o.id=j/\(st.H j).live=true/\(st.H j).mut=true/\ρ1 o.id=ρ j:=fun o ho h0=>by
  have e:o.id=(0,o.id.2):=by rw [<-h0]
  have hl:(a2s hp' (0,o.id.2)).live=true:=by rw [<-e,b7H tk3 ho];exact b2G o
  obtain ⟨f1,f2⟩:=fr.own _ hl
  obtain ⟨o0,o1,o2,o3⟩:=a7u f1
  have key:∀j,a1w pm.m o.id=some (some j)->g o.id=j:=fun j hj=>by
   show gV pm.m nm o.id=j
   unfold gV
   rw [if_pos h0,hj];rfl
  have lie:∀j,a1w pm.m o.id=some (some j)->ρ1 o.id=ρ j:=fun j hj=>by
   rw [e,f2]
   unfold a15
   rw [<-e,hj]
  rw [<-e] at o2
  rcases g2 o0 o1 with ⟨ag,es,j,b1,b2,b3,_⟩|⟨e',sz,rows,b1,⟨b2,_⟩|⟨j,rows',b2,b3,_⟩⟩
  ·rw [o2] at b2
   exact ⟨j,b2,key j b2,by rw [b3];rfl,by rw [b3];rfl,lie j b2⟩
  ·rw [o2] at b2
   obtain ⟨_,hj⟩:=c3D k4 b2
   cases hj
  ·rw [o2] at b2
   exact ⟨j,b2,key j b2,by rw [b3];rfl,by rw [b3];rfl,lie j b2⟩
 have e1J:∀o∈hp',o.id.1≠0->g o.id=nm o.id.2/\st.H (nm o.id.2)=.a0g:=fun o ho hn=>by
  refine ⟨?_,b99 k7 _ (a5e ho hn)⟩
  show gV pm.m nm o.id=_
  unfold gV
  rw [if_neg hn]
 have g0o:∀o∈hp',∀o'∈hp',g o.id=g o'.id->o.id=o'.id:=fun o ho o' ho' e=>by
  by_cases c1:o.id.1=0<;>by_cases c2:o'.id.1=0
  ·obtain ⟨j,a1,a2,_⟩:=outer o ho c1
   obtain ⟨j',b1,b2,_⟩:=outer o' ho' c2
   have:j=j':=a2.symm.trans (e.trans b2)
   subst this
   exact a7t k1 a1 b1
  ·obtain ⟨j,a1,a2,a3,_⟩:=outer o ho c1
   obtain ⟨b1,b2⟩:=e1J o' ho' c2
   have:j=nm o'.id.2:=a2.symm.trans (e.trans b1)
   subst this
   rw [b2] at a3;cases a3
  ·obtain ⟨j,a1,a2,a3,_⟩:=outer o' ho' c2
   obtain ⟨b1,b2⟩:=e1J o ho c1
   have:j=nm o.id.2:=a2.symm.trans (e.symm.trans b1)
   subst this
   rw [b2] at a3;cases a3
  ·obtain ⟨b1,_⟩:=e1J o ho c1
   obtain ⟨b2,_⟩:=e1J o' ho' c2
   have:=f3T _ _ (b1.symm.trans (e.trans b2))
   rw [b1m k6 ho ho' c1 c2 this]
 have hdec:∀id:Id,Decidable (∃o∈hp',g o.id=id):=fun id=>Classical.propDecidable _
 let ρ2:Lies:=fun id=>if hx:∃o∈hp',g o.id=id then ρ1 (Classical.choose hx).id else ρ id
 have ρ2g:∀o∈hp',ρ2 (g o.id)=ρ1 o.id:=fun o ho=>by
  have hx:∃o'∈hp',g o'.id=g o.id:=⟨o,ho,rfl⟩
  show (if hx:∃o'∈hp',g o'.id=g o.id then ρ1 (Classical.choose hx).id else ρ (g o.id))=_
  rw [dif_pos hx]
  obtain ⟨c1,c2⟩:=Classical.choose_spec hx
  rw [g0o _ c1 _ ho c2]
 have ρ2o:∀id,(∀o∈hp',g o.id≠id)->ρ2 id=ρ id:=fun id hn=>by
  show (if hx:∃o'∈hp',g o'.id=id then ρ1 (Classical.choose hx).id else ρ id)=_
  rw [dif_neg]
  rintro ⟨o,ho,e⟩
  exact hn o ho e
 have look:∀id,(∃o∈hp',g o.id=id/\H2 id=o.ren g/\ρ2 id=ρ1 o.id)\/((∀o∈hp',g o.id≠id)/\ρ2 id=ρ id/\((id∈images pm.m/\H2 id=.dead)\/(id ∉ images pm.m/\H2 id=st.H id))):=fun id=>by
  rcases b2E g hp' (a6T pm.m st.H) id with ⟨o,h1,h2,h3⟩|⟨h1,h2⟩
  ·exact .inl ⟨o,h1,h2,h3,by rw [<-h2];exact ρ2g o h1⟩
  ·refine .inr ⟨h1,ρ2o id h1,?_⟩
   rcases a7v pm.m st.H id with ⟨c1,c2⟩|⟨c1,c2⟩
   ·exact .inl ⟨c1,h2.trans c2⟩
   ·exact .inr ⟨c1,h2.trans c2⟩
 have hob:∀o∈hp',a2s hp' o.id=o.ob:=fun o ho=>b7H tk3 ho
 have oth:∀id b c s,(st.H id).mut=true->id ∉ images pm.m->ρ id=some (b,c,s)->C2.B b:=fun id b c s h1 h2 h3=>.inr ⟨id,c,s,h1,h3,h2,by rw [k5];simp⟩
 have hF2:∀t b,Fr C2 (a2s hp') ρ1 t b->Fr C H2 ρ2 t b:=fun t b hf=>⟨⟨hf.1.1,fun hb=>hf.1.2 (.inl hb)⟩,fun ⟨id,c,s,m1,m2⟩=>by
  rcases look id with ⟨o,o1,o2,o3,o4⟩|⟨o1,o2,⟨o3,o4⟩|⟨o3,o4⟩⟩
  ·rw [o4] at m2
   exact hf.2 ⟨o.id,c,s,by rw [hob o o1];exact b1n o,m2⟩
  ·rw [o4] at m1;cases m1
  ·rw [o4] at m1
   rw [o2] at m2
   exact hf.1.2 (oth id b c s m1 o3 m2)⟩
 have hkeep:a13 w w' (Fr C st.H ρ) (Fr C H2 ρ2) st.H H2 ρ ρ2:=by
  refine ⟨fr.size,fun t b f1 f2=>?_,fun id hid=>?_⟩
  ·obtain ⟨f3,f4⟩:=fr.blk t b (q2 t b f1) f2
   exact ⟨hF2 t b f3,f4⟩
  ·rcases look id with ⟨o,o1,o2,o3,o4⟩|⟨o1,o2,⟨o3,o4⟩|⟨o3,o4⟩⟩
   ·by_cases c1:o.id.1=0
    ·obtain ⟨j,a1,a2,a3,_,a5⟩:=outer o o1 c1
     have:j=id:=a2.symm.trans o2
     subst this
     exact ⟨by rw [o3];exact c3E (c0a g o),fun _=>⟨a3,o4.trans a5⟩⟩
    ·obtain ⟨b1,b2⟩:=e1J o o1 c1
     rw [<-o2,b1,b2] at hid
     exact (hid rfl).elim
   ·rw [o4];exact ⟨by simp,fun l=>by cases l⟩
   ·rw [o4];exact ⟨hid,fun l=>⟨l,o2⟩⟩
 have free:∀c u,a1Y c->a03 w' (Fr C2 (a2s hp') ρ1) (a2s hp') ρ1 c u->a03 w' (Fr C H2 ρ2) H2 ρ2 c u:=fun c u hc hu=>hu.b46 hc fun t b _ q=>hF2 t b q
 have named:∀i,b5Y hp' i->(a2s hp' i).live=true/\H2 (g i)≠.a0g/\ρ2 (g i)=ρ1 i:=fun i hi=>by
  obtain ⟨o,o1,rfl⟩:=b2D hi
  refine ⟨by rw [hob o o1];exact b2G o,?_,ρ2g o o1⟩
  rcases look (g o.id) with ⟨o',p1,p2,p3,_⟩|⟨p1,_⟩
  ·rw [p3];exact c3E (c0a g o')
  ·exact (p1 o o1 rfl).elim
 have trR:∀c u,nmC hp' c->a03 w' (Fr C2 (a2s hp') ρ1) (a2s hp') ρ1 c u->a03 w' (Fr C H2 ρ2) H2 ρ2 (c.ren g) u:=fun c u hc hu=>by
  cases hu with
  |raw=>exact .raw _
  |str=>exact .str _
  |a0x=>exact .a0x _
  |a08 t cl _ h=>exact .a08 t cl _ h
  |sl t cl xs b o cap sz vs hb hf hcap hcl hrow hcell hone hrel=>
   exact .sl t cl xs b o cap sz vs hb (hF2 t b hf) hcap hcl hrow hcell hone fun i j r c hi hj=>free c _ (hc.2 r (List.mem_of_getElem? hi) c (List.mem_of_getElem? hj)) (hrel i j r c hi hj)
  |so i off len _ hk hs=>
   obtain ⟨n1,n2,n3⟩:=named i hc
   refine .so _ _ _ _ n2 fun _=>?_
   have:=hs n1
   unfold a2j at *
   rw [n3];exact this
  |pt i x y _ hk hs=>
   obtain ⟨n1,n2,n3⟩:=named i hc
   refine .pt _ _ _ _ n2 fun _=>?_
   obtain ⟨b,c,s,p1,p2⟩:=hs n1
   exact ⟨b,c,s,by rw [n3];exact p1,p2⟩
  |mr i _ hk hs=>
   obtain ⟨n1,n2,n3⟩:=named i hc
   refine .mr _ _ n2 fun _=>?_
   obtain ⟨b,c,s,p1,p2⟩:=hs n1
   exact ⟨b,c,s,by rw [n3];exact p1,p2⟩
  |_=>exact hc.elim
 have others:∀id b c s,(st.H id).live=true->id ∉ images pm.m->ρ id=some (b,c,s)->C.p<=b->b<w.heap.size->
   (w'.heap[b]?=w.heap[b]?)/\∀o∈hp',∀c' s',ρ1 o.id=some (b,c',s')->False:=fun id b c s hl hi hρ hpb hlt=>by
  by_cases hB:C2.B b
  ·exact ⟨(r1.maps.there b hB).2,fun o ho c' s' q=>r1.maps.not o.id b c' s' (by rw [hob o ho];exact b2G o) q hB⟩
  ·have f0:Fr C2 (a2s hp) (a15 ρ pm) .new b:=⟨⟨.inl hpb,hB⟩,fun hm=>by
    obtain ⟨i,j,cap,s',m1,m2,m3⟩:=q3 b hm
    have hj:=a5Z m1
    cases ho:st.H id with
    |arr e sz f rows=>
     cases h2:st.H j with
     |arr e' sz' f' rows'=>
      rw [h2] at m2
      cases f' with
      |true=>cases m2
      |false=>
       have:=hr.heap.inj j id e' sz' rows' e sz f rows b cap s' c s h2 ho m3 hρ
       subst this;exact hi hj
     |mp ag es=>exact hr.heap.apart ho h2 hρ m3
     |_=>rw [h2] at m2;cases m2
    |mp ag es=>
     have:=hr.heap.same (by rw [ho];rfl) m2 hρ m3
     subst this;exact hi hj
    |_=>rw [ho] at hl;cases hl⟩
   obtain ⟨f1,f2⟩:=fr.blk .new b f0 hlt
   exact ⟨f2,fun o ho c' s' q=>f1.2 ⟨o.id,c',s',by rw [hob o ho];exact b1n o,q⟩⟩
 have d2d:∀id e sz f rows b c s,st.H id=.arr e sz f rows->ρ id=some (b,c,s)->C.p<=b/\b<w.heap.size:=fun id e sz f rows b c s h1 h2=>by
  rcases (hr.heap.row id e sz f rows h1).lies with ⟨q,_⟩|⟨b',cap,cur,q,p1,p2,_⟩
  ·rw [q] at h2;cases h2
  ·rw [q] at h2;cases h2
   exact ⟨p1,p2.lt⟩
 have d2e:∀id ag es b c s,st.H id=.mp ag es->ρ id=some (b,c,s)->C.p<=b/\b<w.heap.size:=fun id ag es b c s h1 h2=>by
  obtain ⟨b',c2,s2,E,e1,e2,e3,_⟩:=hr.heap.maps.row id ag es h1
  rw [e1] at h2;cases h2
  exact ⟨e2,(Array.getElem?_eq_some_iff.1 e3).1⟩
 have hR:a2B C H2 ρ2 w':=by
  refine ⟨r1.below,fun id e sz f rows hi=>?_,fun i1 i2 e1 s1 rw1 e2 s2 f2 rw2 b c s c' s' h1 h2 p1 p2=>?_,c3C g hp' (b2F pm.m hr.heap.fin),⟨fun id ag es hi=>?_,fun i1 i2 a1 e1 a2 e2 b c s c' s' h1 h2 p1 p2=>?_,fun b hb=>?_,fun id b c s hl hρ=>?_⟩⟩
  ·rcases look id with ⟨o,o1,o2,o3,o4⟩|⟨o1,o2,⟨o3,o4⟩|⟨o3,o4⟩⟩
   ·obtain ⟨c5X,c1,rfl,c2,c3⟩:=c7g (o3.symm.trans hi) (tk2 o o1) (Q:=fun c0 c=>∀u,a03 w' (Fr C2 (a2s hp') ρ1) (a2s hp') ρ1 c0 u->a03 w' (Fr C H2 ρ2) H2 ρ2 c u) (fun c hc u hu=>free c u hc hu) (fun c hc u hu=>trR c u hc hu)
    have hrow:=r1.row o.id e sz false c5X (by rw [hob o o1];exact c1)
    refine ⟨fun i r hr'=>?_,?_⟩
    ·obtain ⟨r0,d1,d2,_⟩:=c3 i r hr'
     rw [d2];exact hrow.a3p i r0 d1
    ·rcases hrow.lies with ⟨d1,d2⟩|⟨b,cap,cur,d1,d2,d3,d4,d5,d6,d7⟩
     ·subst d2
      exact .inl ⟨o4.trans d1,List.eq_nil_of_length_eq_zero c2⟩
     ·refine .inr ⟨b,cap,cur,o4.trans d1,d2,d3,by omega,d5,d6,fun i k r c hi' hk'=>?_⟩
      obtain ⟨r0,e1,_,e3⟩:=c3 i r hi'
      obtain ⟨c0,e4,e5⟩:=e3 k c hk'
      obtain ⟨v,v1,v2,v3⟩:=d7 i k r0 c0 e1 e4
      exact ⟨v,v1,v2,e5 v v3⟩
   ·rw [o4] at hi;cases hi
   ·have hi':=o4.symm.trans hi
    refine (hr.heap.row id e sz f rows hi').keep (C:=C) hkeep o2 fun b c s hρ=>?_
    obtain ⟨b1,b2⟩:=d2d id e sz f rows b c s hi' hρ
    exact (others id b c s (by rw [hi'];rfl) o3 hρ b1 b2).1
  ·rcases look i1 with ⟨o,o1,o2,o3,o4⟩|⟨o1,o2,⟨o3,o4⟩|⟨o3,o4⟩⟩<;>rcases look i2 with ⟨o',x1,x2,x3,x4⟩|⟨x1,x2,⟨x3,x4⟩|⟨x3,x4⟩⟩
   all_goals first
    |(rw [o4] at h1;cases h1;done)
    |(rw [x4] at h2;cases h2;done)
    |skip
   ·have:o.id=o'.id:=by
     have z1:(a2s hp' o.id).mut=true:=by rw [hob o o1];exact b1n o
     have z2:(a2s hp' o'.id).mut=true:=by rw [hob o' x1];exact b1n o'
     exact r1.same z1 z2 (o4.symm.trans p1) (x4.symm.trans p2)
    rw [<-o2,<-x2,this]
   ·have h2':=x4.symm.trans h2
    have p2':=x2.symm.trans p2
    obtain ⟨b1,b2⟩:=d2d i2 _ _ _ _ _ _ _ h2' p2'
    exact ((others i2 b c' s' (by rw [h2'];rfl) x3 p2' b1 b2).2 o o1 c s (o4.symm.trans p1)).elim
   ·have h1':=o4.symm.trans h1
    have p1':=o2.symm.trans p1
    obtain ⟨b1,b2⟩:=d2d i1 _ _ _ _ _ _ _ h1' p1'
    exact ((others i1 b c s (by rw [h1'];rfl) o3 p1' b1 b2).2 o' x1 c' s' (x4.symm.trans p2)).elim
   ·exact hr.heap.inj i1 i2 e1 s1 rw1 e2 s2 f2 rw2 b c s c' s' (o4.symm.trans h1) (x4.symm.trans h2) (o2.symm.trans p1) (x2.symm.trans p2)
  ·rcases look id with ⟨o,o1,o2,o3,o4⟩|⟨o1,o2,⟨o3,o4⟩|⟨o3,o4⟩⟩
   ·cases o with
    |map i ag' es'=>
     have e0:=o3.symm.trans hi
     cases e0
     obtain ⟨b,c,s,E,e1,e2,e3,e4,e5⟩:=r1.maps.row i ag es (hob _ o1)
     refine ⟨b,c,s,E,o4.trans e1,e2,e3,e4,fun n key x hn=>?_⟩
     obtain ⟨m,m1,m2,m3,m4⟩:=e5 n key x hn
     exact ⟨m,m1,m2,m3,free x _ (tk2 _ o1 _ (List.mem_of_getElem? hn)) m4⟩
    |_=>have e0:=o3.symm.trans hi;cases e0
   ·rw [o4] at hi;cases hi
   ·have hi':=o4.symm.trans hi
    refine (hr.heap.maps.row id ag es hi').keep hkeep o2 fun b c s hρ=>?_
    obtain ⟨b1,b2⟩:=d2e id ag es b c s hi' hρ
    exact (others id b c s (by rw [hi'];rfl) o3 hρ b1 b2).1
  ·rcases look i1 with ⟨o,o1,o2,o3,o4⟩|⟨o1,o2,⟨o3,o4⟩|⟨o3,o4⟩⟩<;>rcases look i2 with ⟨o',x1,x2,x3,x4⟩|⟨x1,x2,⟨x3,x4⟩|⟨x3,x4⟩⟩
   all_goals first
    |(rw [o4] at h1;cases h1;done)
    |(rw [x4] at h2;cases h2;done)
    |skip
   ·have:o.id=o'.id:=by
     have z1:(a2s hp' o.id).mut=true:=by rw [hob o o1];exact b1n o
     have z2:(a2s hp' o'.id).mut=true:=by rw [hob o' x1];exact b1n o'
     exact r1.same z1 z2 (o4.symm.trans p1) (x4.symm.trans p2)
    rw [<-o2,<-x2,this]
   ·have h2':=x4.symm.trans h2
    have p2':=x2.symm.trans p2
    obtain ⟨b1,b2⟩:=d2e i2 _ _ _ _ _ h2' p2'
    exact ((others i2 b c' s' (by rw [h2'];rfl) x3 p2' b1 b2).2 o o1 c s (o4.symm.trans p1)).elim
   ·have h1':=o4.symm.trans h1
    have p1':=o2.symm.trans p1
    obtain ⟨b1,b2⟩:=d2e i1 _ _ _ _ _ h1' p1'
    exact ((others i1 b c s (by rw [h1'];rfl) o3 p1' b1 b2).2 o' x1 c' s' (x4.symm.trans p2)).elim
   ·exact hr.heap.maps.inj i1 i2 a1 e1 a2 e2 b c s c' s' (o4.symm.trans h1) (x4.symm.trans h2) (o2.symm.trans p1) (x2.symm.trans p2)
  ·obtain ⟨b1,b2⟩:=r1.maps.there b (.inl hb)
   exact ⟨b1,b2.trans (hr.heap.maps.there b hb).2⟩
  ·intro hB
   rcases look id with ⟨o,o1,o2,o3,o4⟩|⟨o1,o2,⟨o3,o4⟩|⟨o3,o4⟩⟩
   ·exact r1.maps.not o.id b c s (by rw [hob o o1];exact b2G o) (o4.symm.trans hρ) (.inl hB)
   ·rw [o4] at hl;cases hl
   ·exact hr.heap.maps.not id b c s (by rw [<-o4];exact hl) (o2.symm.trans hρ) hB
 have hret:a3u w' (Fr C H2 ρ2) H2 ρ2 (ret.ren g) v:=by
  have cells:∀(xs:List AC) (us:Array Value),(∀c∈xs,nmC hp' c)->us.size=xs.length->(∀(k:Nat) c,xs[k]?=some c->a03 w' (Fr C2 (a2s hp') ρ1) (a2s hp') ρ1 c (us.getD k undef))->
    us.size=(xs.map (AC.ren g)).length/\∀(k:Nat) c,(xs.map (AC.ren g))[k]?=some c->a03 w' (Fr C H2 ρ2) H2 ρ2 c (us.getD k undef):=fun xs us h1 h2 h3=>⟨by simpa using h2,fun k c hk'=>by
   rw [List.getElem?_map,Option.map_eq_some_iff] at hk'
   obtain ⟨c0,d1,rfl⟩:=hk'
   exact trR c0 _ (h1 c0 (List.mem_of_getElem? d1)) (h3 k c0 d1)⟩
  cases r2 with
  |c x _ hx=>exact .c _ _ (trR x _ (tk1 x (by simp [AV.flat])) hx)
  |g xs us h1 h2=>
   obtain ⟨d1,d2⟩:=cells xs us (fun c hc=>tk1 c hc) h1 h2
   exact .g _ _ d1 d2
  |t xs us h1 h2=>
   refine .t _ us (by simpa [AV.ren] using h1) fun j b cs hj=>?_
   rw [List.getElem?_map,Option.map_eq_some_iff] at hj
   obtain ⟨⟨b0,cs0⟩,d1,d2⟩:=hj
   cases d2
   have hmem:∀c∈cs0,nmC hp' c:=fun c hc=>tk1 c (c0b (List.mem_of_getElem? d1) hc)
   have:=h2 j b0 cs0 d1
   generalize us.getD j undef=u at this
   cases this with
   |c x _ hx=>exact .c _ _ (trR x _ (hmem x (by simp)) hx)
   |g _ ys h3 h4=>
    obtain ⟨d3,d4⟩:=cells cs0 ys hmem h3 h4
    exact .g _ _ d3 d4
 exact ⟨v,rfl,ρ2,ret.ren g,H2,st.T,⟨hR,fun t=>(hr.slot t).keep hkeep,hr.a7T,C.b42 hkeep hr.ghost,hr.nf⟩,hret,hk⟩
theorem a4N {f:FuncId} {b44:List AV} {hp hp':List HO} {ret:AV} (hv:VC P f b44 hp ret hp') {st:St} {dst:Option Nat} {args:List AV} {K:St->Prop}
  (h:mAs st.H b44 args ⟨[],[]⟩ fun pm=>mHo st.H hp pm fun pm=>mOk st.H (a2n st dst) hp hp' pm/\
   K ((st.hto (c2l (gV pm.m (a2n st dst)) hp' (a6T pm.m st.H))).put dst (ret.ren (gV pm.m (a2n st dst))))):a7i P false st dst f args K:=by
 obtain ⟨p1,_,h,g1⟩:=b7G h
 obtain ⟨pm,l1,⟨kk,hk⟩,g2⟩:=a9X h
 exact b1o hv (g1 pm l1) (g2 pm (.refl _)) kk hk
def eqM (g:Id->Id):List (Id×Option Id)->Prop
 |[]=>True
 |(_,none)::r=>eqM g r
 |(i,some j)::r=>g i=j/\eqM g r
def eqH (H:Heap) (g:Id->Id):List HO->Prop
 |[]=>True
 |o::r=>H (g o.id)=o.ren g/\eqH H g r
theorem c3F {H:Heap} {g:Id->Id}:∀{l:List HO},eqH H g l->∀o∈l,H (g o.id)=o.ren g
 |[],_,o,h=>by simp at h
 |a::r,h,o,hm=>by
  rcases List.mem_cons.1 hm with rfl|hm
  ·exact h.1
  ·exact c3F h.2 o hm
theorem b7I {g:Id->Id} {j:Id}:∀{m:List (Id×Option Id)},eqM g m->j∈images m->∃i,(i,some j)∈m/\g i=j
 |[],_,h=>by simp [images] at h
 |(a,none)::r,h,hm=>by
  obtain ⟨i,h1,h2⟩:=b7I (m:=r) h (by simpa [images] using hm)
  exact ⟨i,List.mem_cons_of_mem _ h1,h2⟩
 |(a,some b)::r,h,hm=>by
  have hm':j=b\/j∈images r:=by simpa [images] using hm
  rcases hm' with rfl|hm
  ·exact ⟨a,List.mem_cons_self ..,h.1⟩
  ·obtain ⟨i,h1,h2⟩:=b7I (m:=r) h.2 hm
   exact ⟨i,List.mem_cons_of_mem _ h1,h2⟩
theorem c1p {H:Heap} {g:Id->Id} {hp:List HO} {m:List (Id×Option Id)} (h1:eqM g m) (h2:c3w hp m) (h3:eqH H g hp):c2l g hp (a6T m H)=H:=by
 funext id
 rcases b2E g hp (a6T m H) id with ⟨o,a1,a2,a3⟩|⟨a1,a2⟩
 ·rw [a3,<-a2,c3F h3 o a1]
 ·rcases a7v m H id with ⟨b1,b2⟩|⟨b1,b2⟩
  ·obtain ⟨i,c1,c2⟩:=b7I h1 b1
   obtain ⟨o,c3,c4⟩:=a7s h2 _ c1
   exact (a1 o c3 (by rw [c4];exact c2)).elim
  ·rw [a2,b2]
theorem c7h {F:CT} {f:FuncId} {b44:List AV} {hp:List HO} {ret:AV} (hv:VC P f b44 hp ret hp) {st:St} {dst:Option Nat} {args:List AV} {K:St->Prop} (hF:a0c F f=none)
  (h:mAs st.H b44 args ⟨[],[]⟩ fun pm=>mHo st.H hp pm fun pm=>(mOk st.H (a2n st dst) hp hp pm/\eqM (gV pm.m (a2n st dst)) pm.m/\eqH st.H (gV pm.m (a2n st dst)) hp)/\K (st.put dst (ret.ren (gV pm.m (a2n st dst))))):c2T P F st dst f args K:=by
 obtain ⟨p1,_,h,g1⟩:=b7G h
 obtain ⟨pm,l1,⟨⟨kk,k1,k2⟩,hk⟩,g2⟩:=a9X h
 refine ⟨_,?_,hk⟩
 unfold a9P
 rw [hF]
 exact b1o hv (g1 pm l1) (g2 pm (.refl _)) kk (by rw [c1p k1 kk.1.2.2 k2];rfl)
end Go.AE
