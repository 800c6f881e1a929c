/- disk.Blank. -/
import Derived.Test.YtfmcfhlfjepbkaaGreatDoorFu3
import Derived.Test.YtfmcfhlfjepbkaaGreatDoorFu4
import Derived.Shelf.Strings.Repeat
import Derived.KernelRfl
import Derived.Test.YtfmcfhlfjepbkaaGreatDoorProg
import Derived.WalkKit
import Derived.BigCall
import Derived.Shelf.Strings.FuncGrows
import Derived.Shelf.Utf8.RuneCount
set_option linter.unusedVariables false
set_option linter.unusedSimpArgs false
set_option maxRecDepth 1000000
set_option maxHeartbeats 4000000
namespace Go.AE
open Go
variable {P:Program} {F:CT} {st:St}
def mI (l:List (List Int×Int)):List (List Int×AC):=l.map fun q=>(q.1,.raw (.int .i64 q.2))
def lk (l:List (List Int×Int)) (k:List Int):Option Int:=(l.find? fun q=>q.1==k).map (·.2)
def pt (l:List (List Int×Int)) (k:List Int) (n:Int):List (List Int×Int):=
 match l.findIdx? fun q=>q.1==k with
 |some i=>l.set i (k,n)
 |none=>l++[(k,n)]
@[simp] theorem f5g:mI []=[]:=(rfl)
@[simp] theorem e8g {l:List (List Int×Int)} {k:List Int}:b45 (mI l) k=(lk l k).map fun n=>.raw (.int .i64 n):=by
 induction l with
 |nil=>rfl
 |cons a r ih=>
  simp only [b45,mI,lk,List.map_cons,List.find?_cons] at ih ⊢
  cases a.1==k<;>simp_all
@[simp] theorem e8h {l:List (List Int×Int)} {k:List Int} {n:Int}:c6f (mI l) k (.raw (.int .i64 n))=mI (pt l k n):=by
 have:c8D (mI l) k=l.findIdx? fun q=>q.1==k:=by
  unfold c8D mI
  rw [List.findIdx?_map];rfl
 unfold c6f pt
 rw [this]
 cases l.findIdx? fun q=>q.1==k with
 |none=>simp [mI]
 |some i=>simp [mI,List.map_set]
@[simp] theorem d6I {l:List (List Int×Int)}:(∀q∈mI l,a1Y q.2)=True:=by
 simp only [mI,List.mem_map,eq_iff_iff,iff_true]
 rintro q ⟨a,_,rfl⟩
 exact .raw _
@[simp] theorem e8i {l:List (List Int×Int)}:(∀(a:List Int) (b:AC),(a,b)∈mI l->a1Y b)=True:=by
 simp only [eq_iff_iff,iff_true]
 intro a b h
 have:=d6I (l:=l)
 rw [eq_iff_iff,iff_true] at this
 exact this _ h
section
variable {hp r:List HO} {pm:PM} {K:PM->Prop} {H:Heap} {i j:Id} {m:List (Id×Option Id)} {g:Id->Id}
@[simp] theorem f5h {ag:Nat} {es:List (List Int×AC)}:a2s (.map i ag es::r) j=if j=i then .mp ag es else a2s r j:=(rfl)
@[simp] theorem f7X:mC H (.mr i) (.mr j) pm K=bd i (some j) pm K:=by simp [mC]
def atM (H:Heap) (ag:Nat) (es:List (List Int×AC)) (K:Prop):Option (Option Id)->Prop
 |some (some j)=>(H j=.mp ag es/\∀q∈es,a1Y q.2)/\K
 |_=>False
@[simp] theorem g0Z {ag:Nat} {es:List (List Int×AC)}:mO H (.map i ag es) pm K=atM H ag es (K pm) (a1w pm.m i):=by
 simp only [mO];split<;>simp_all [atM]
@[simp] theorem f7Y {ag:Nat} {es:List (List Int×AC)} {K:Prop}:atM H ag es K (some (some j))=((H j=.mp ag es/\∀q∈es,a1Y q.2)/\K):=(rfl)
@[simp] theorem e2W {args:List AV} {k:Nat}:(a9Z args hp).s k=args.getD k (.c (.raw undef)):=(rfl)
@[simp] theorem e2X {args:List AV}:(a9Z args hp).H=a2s hp:=(rfl)
@[simp] theorem e2Y {args:List AV}:(a9Z args hp).T=1:=(rfl)
@[simp] theorem e2Z {fn:Func} {ret:AV}:e8f P fn ret hp .ret st=∃res,c08 P st fn.results.toList=some res/\mV st.H ret res ⟨c53 hp,[]⟩ fun pm=>mHo st.H hp pm fun pm=>d2D hp pm/\pmA pm.m:=by simp [e8f]
@[simp] theorem f7Z:mAs H [] [] pm K=K pm:=(rfl)
@[simp] theorem f8a {x y:AV} {l l':List AV}:mAs H (x::l) (y::l') pm K=mV H x y pm fun pm=>mAs H l l' pm K:=(rfl)
@[simp] theorem e8j:a6T [] H=H:=(rfl)
@[simp] theorem e8k:a6T ((i,some j)::m) H=hset (a6T m H) j .dead:=(rfl)
@[simp] theorem f5i:c2l g [] H=H:=(rfl)
@[simp] theorem f5j {o:HO}:c2l g (o::r) H=hset (c2l g r H) (g o.id) (o.ren g):=(rfl)
@[simp] theorem f8b {nm:Nat->Id}:gV m nm i=if i.1=0 then ((a1w m i).getD none).getD i else nm i.2:=(rfl)
@[simp] theorem f8c:pmS []=True:=(rfl)
@[simp] theorem f8d {o:Option Id}:pmS ((i,o)::m)=(o.isSome=true/\pmS m):=(rfl)
@[simp] theorem e20:a5F []=[]:=(rfl)
@[simp] theorem e21 {o:HO}:a5F (o::r)=if o.id.1=0 then a5F r else o.id.2::a5F r:=(rfl)
@[simp] theorem f5k {nm:Nat->Id}:e2V H nm []=True:=(rfl)
@[simp] theorem e8l {v:Value}:AC.ren g (.raw v)=.raw v:=(rfl)
@[simp] theorem f5l {a b:Nat}:AC.ren g (.pt i a b)=.pt (g i) a b:=(rfl)
@[simp] theorem f5m:AC.ren g (.mr i)=.mr (g i):=(rfl)
@[simp] theorem f5n {c:AC}:AV.ren g (.c c)=.c (c.ren g):=(rfl)
@[simp] theorem f5o {e:Nat} {c:List AC}:HO.ren g (.var i e c)=.arr e c.length false [c.map (AC.ren g)]:=(rfl)
@[simp] theorem f5p {ag:Nat} {es:List (List Int×AC)}:HO.ren g (.map i ag es)=.mp ag es:=(rfl)
@[simp] theorem e8m {v:Value}:nmC hp (.raw v)=True:=(rfl)
@[simp] theorem f5q {a b:Nat}:nmC hp (.pt i a b)=b5Y hp i:=(rfl)
@[simp] theorem f5r:nmC hp (.mr i)=b5Y hp i:=(rfl)
@[simp] theorem f5s:d2G hp []=True:=(rfl)
@[simp] theorem f5t {o:HO}:d2G hp (o::r)=(o.ok hp/\d2G hp r):=(rfl)
@[simp] theorem g00 {e:Nat} {c:List AC}:HO.ok hp (.var i e c)=∀x∈c,nmC hp x:=(rfl)
@[simp] theorem g01 {ag:Nat} {es:List (List Int×AC)}:HO.ok hp (.map i ag es)=∀q∈es,a1Y q.2:=(rfl)
@[simp] theorem f5u {a b:Nat}:AC.one H (.pt i a b)=(H i).live:=(rfl)
@[simp] theorem f5v:AC.one H (.mr i)=(H i).live:=(rfl)
@[simp] theorem e8n {ag:Nat} {es:List (List Int×AC)}:OK.live (.mp ag es)=true:=(rfl)
end
attribute [simp] takes mOk eqM eqH
open Go Go.Proofs
def kf3:List Nat:=[1000195]
def e8o:SC:=(⟨_,by cbv⟩:{x//slB kf3 Tryz.f3.body [] 0=x}).1
def f5w:SC:=(⟨_,fun a=>by cbv⟩:{x:SC->SC//∀a,slB kf3 Tryz.f3.body [a] 1=x a}).1 e8o
def f8e:SC:=(⟨_,fun a b=>by cbv⟩:{x:SC->SC->SC//∀a b,slB kf3 Tryz.f3.body [a,b] 2=x a b}).1 e8o f5w
def s3:SC:=(⟨_,fun a b c=>by cbv⟩:{x:SC->SC->SC->SC//∀a b c,slW kf3 Tryz.f3.body [a,b,c]=x a b c}).1 e8o f5w f8e
def s4:SC:=(⟨_,by cbv⟩:{x//slW kf3 Tryz.f4.body []=x}).1
def f5x:SC:=(⟨_,by cbv⟩:{x//slB kf3 Tryz.f5.body [] 0=x}).1
def s5:SC:=(⟨_,fun a=>by cbv⟩:{x:SC->SC//∀a,slW kf3 Tryz.f5.body [a]=x a}).1 f5x
theorem sl5:a0q Tryz.f5.body s5=some (unK s5,true):=by kernel_rfl
theorem ok5:a0M a0p Tryz.f5 0=true:=by kernel_rfl
def f5y:SC:=(⟨_,by cbv⟩:{x//slB kf3 Tryz.f6.body [] 0=x}).1
def s6:SC:=(⟨_,fun a=>by cbv⟩:{x:SC->SC//∀a,slW kf3 Tryz.f6.body [a]=x a}).1 f5y
theorem sl6:a0q Tryz.f6.body s6=some (unK s6,true):=by kernel_rfl
theorem ok6:a0M a0p Tryz.f6 0=true:=by kernel_rfl
def e8p:SC:=(⟨_,by cbv⟩:{x//slB kf3 Tryz.f7.body [] 0=x}).1
def f5z:SC:=(⟨_,fun a=>by cbv⟩:{x:SC->SC//∀a,slB kf3 Tryz.f7.body [a] 1=x a}).1 e8p
def s7:SC:=(⟨_,fun a b=>by cbv⟩:{x:SC->SC->SC//∀a b,slW kf3 Tryz.f7.body [a,b]=x a b}).1 e8p f5z
theorem sl7:a0q Tryz.f7.body s7=some (unK s7,true):=by kernel_rfl
theorem ok7:a0M a0p Tryz.f7 0=true:=by kernel_rfl
def s9:SC:=(⟨_,by cbv⟩:{x//slW kf3 Tryz.f9.body []=x}).1
def c7i:SC:=(⟨_,by cbv⟩:{x//slB kf3 Tryz.f15.body [] 0=x}).1
def s15:SC:=(⟨_,fun a=>by cbv⟩:{x:SC->SC//∀a,slW kf3 Tryz.f15.body [a]=x a}).1 c7i
theorem f8f:a0q Tryz.f15.body s15=some (unK s15,true):=by kernel_rfl
theorem f8g:a0M a0p Tryz.f15 0=true:=by kernel_rfl
def c7j:SC:=(⟨_,by cbv⟩:{x//slB kf3 Tryz.f16.body [] 0=x}).1
def s16:SC:=(⟨_,fun a=>by cbv⟩:{x:SC->SC//∀a,slW kf3 Tryz.f16.body [a]=x a}).1 c7j
theorem f8h:a0q Tryz.f16.body s16=some (unK s16,true):=by kernel_rfl
theorem ok16:a0M a0p Tryz.f16 0=true:=by kernel_rfl
def s18:SC:=(⟨_,by cbv⟩:{x//slW kf3 Tryz.f18.body []=x}).1
theorem f8i:a0q Tryz.f18.body s18=some (unK s18,true):=by kernel_rfl
theorem f8j:a0M a0p Tryz.f18 0=true:=by kernel_rfl
def s19:SC:=(⟨_,by cbv⟩:{x//slW kf3 Tryz.f19.body []=x}).1
theorem f8k:a0q Tryz.f19.body s19=some (unK s19,true):=by kernel_rfl
theorem f8l:a0M a0p Tryz.f19 0=true:=by kernel_rfl
def a2X:SC:=(⟨_,by cbv⟩:{x//slB kf3 Tryz.f23.body [] 0=x}).1
def s23:SC:=(⟨_,fun a=>by cbv⟩:{x:SC->SC//∀a,slW kf3 Tryz.f23.body [a]=x a}).1 a2X
theorem f8m:a0q Tryz.f23.body s23=some (unK s23,true):=by kernel_rfl
theorem f8n:a0M a0p Tryz.f23 0=true:=by kernel_rfl
def s26:SC:=(⟨_,by cbv⟩:{x//slW kf3 Tryz.f26.body []=x}).1
theorem f8o:a0q Tryz.f26.body s26=some (unK s26,true):=by kernel_rfl
theorem f8p:a0M a0p Tryz.f26 0=true:=by kernel_rfl
def s28:SC:=(⟨_,by cbv⟩:{x//slW kf3 Tryz.f28.body []=x}).1
theorem sl28:a0q Tryz.f28.body s28=some (unK s28,true):=by kernel_rfl
theorem f8q:a0M a0p Tryz.f28 0=true:=by kernel_rfl
def s29:SC:=(⟨_,by cbv⟩:{x//slW kf3 Tryz.f29.body []=x}).1
theorem f8r:a0q Tryz.f29.body s29=some (unK s29,true):=by kernel_rfl
theorem f8s:a0M a0p Tryz.f29 0=true:=by kernel_rfl
def c7k:SC:=(⟨_,by cbv⟩:{x//slB kf3 Tryz.f30.body [] 0=x}).1
def d6J:SC:=(⟨_,fun a=>by cbv⟩:{x:SC->SC//∀a,slB kf3 Tryz.f30.body [a] 1=x a}).1 c7k
def s30:SC:=(⟨_,fun a b=>by cbv⟩:{x:SC->SC->SC//∀a b,slW kf3 Tryz.f30.body [a,b]=x a b}).1 c7k d6J
theorem f8t:a0q Tryz.f30.body s30=some (unK s30,true):=by kernel_rfl
theorem f8u:a0M a0p Tryz.f30 0=true:=by kernel_rfl
def s32:SC:=(⟨_,by cbv⟩:{x//slW kf3 Tryz.f32.body []=x}).1
theorem f8v:a0q Tryz.f32.body s32=some (unK s32,true):=by kernel_rfl
theorem ok32:a0M a0p Tryz.f32 0=true:=by kernel_rfl
def s33:SC:=(⟨_,by cbv⟩:{x//slW kf3 Tryz.f33.body []=x}).1
theorem f8w:a0q Tryz.f33.body s33=some (unK s33,true):=by kernel_rfl
theorem f8x:a0M a0p Tryz.f33 0=true:=by kernel_rfl
def s35:SC:=(⟨_,by cbv⟩:{x//slW kf3 Tryz.f35.body []=x}).1
theorem sl35:a0q Tryz.f35.body s35=some (unK s35,true):=by kernel_rfl
theorem f8y:a0M a0p Tryz.f35 0=true:=by kernel_rfl
def s42:SC:=(⟨_,by cbv⟩:{x//slW kf3 Tryz.f42.body []=x}).1
theorem f8z:a0q Tryz.f42.body s42=some (unK s42,true):=by kernel_rfl
theorem f8A:a0M a0p Tryz.f42 0=true:=by kernel_rfl
def b2H:SC:=(⟨_,by cbv⟩:{x//slB kf3 Tryz.f49.body [] 0=x}).1
def s49:SC:=(⟨_,fun a=>by cbv⟩:{x:SC->SC//∀a,slW kf3 Tryz.f49.body [a]=x a}).1 b2H
theorem f8B:a0q Tryz.f49.body s49=some (unK s49,true):=by kernel_rfl
theorem f8C:a0M a0p Tryz.f49 0=true:=by kernel_rfl
def s53:SC:=(⟨_,by cbv⟩:{x//slW kf3 Tryz.f53.body []=x}).1
theorem f8D:a0q Tryz.f53.body s53=some (unK s53,true):=by kernel_rfl
theorem f8E:a0M a0p Tryz.f53 0=true:=by kernel_rfl
def s54:SC:=(⟨_,by cbv⟩:{x//slW kf3 Tryz.f54.body []=x}).1
theorem f8F:a0q Tryz.f54.body s54=some (unK s54,true):=by kernel_rfl
theorem f8G:a0M a0p Tryz.f54 0=true:=by kernel_rfl
def s55:SC:=(⟨_,by cbv⟩:{x//slW kf3 Tryz.f55.body []=x}).1
theorem f8H:a0q Tryz.f55.body s55=some (unK s55,true):=by kernel_rfl
theorem f8I:a0M a0p Tryz.f55 0=true:=by kernel_rfl
def s56:SC:=(⟨_,by cbv⟩:{x//slW kf3 Tryz.f56.body []=x}).1
theorem f8J:a0q Tryz.f56.body s56=some (unK s56,true):=by kernel_rfl
theorem f8K:a0M a0p Tryz.f56 0=true:=by kernel_rfl
def s57:SC:=(⟨_,by cbv⟩:{x//slW kf3 Tryz.f57.body []=x}).1
theorem f8L:a0q Tryz.f57.body s57=some (unK s57,true):=by kernel_rfl
theorem f8M:a0M a0p Tryz.f57 0=true:=by kernel_rfl
def s58:SC:=(⟨_,by cbv⟩:{x//slW kf3 Tryz.f58.body []=x}).1
theorem f8N:a0q Tryz.f58.body s58=some (unK s58,true):=by kernel_rfl
theorem f8O:a0M a0p Tryz.f58 0=true:=by kernel_rfl
def s60:SC:=(⟨_,by cbv⟩:{x//slW kf3 Tryz.f60.body []=x}).1
theorem f8P:a0q Tryz.f60.body s60=some (unK s60,true):=by kernel_rfl
theorem f8Q:a0M a0p Tryz.f60 0=true:=by kernel_rfl
def c1q:SC:=(⟨_,by cbv⟩:{x//slB kf3 Tryz.f61.body [] 0=x}).1
def s61:SC:=(⟨_,fun a=>by cbv⟩:{x:SC->SC//∀a,slW kf3 Tryz.f61.body [a]=x a}).1 c1q
theorem f8R:a0q Tryz.f61.body s61=some (unK s61,true):=by kernel_rfl
theorem f8S:a0M a0p Tryz.f61 0=true:=by kernel_rfl
def s68:SC:=(⟨_,by cbv⟩:{x//slW kf3 Tryz.f68.body []=x}).1
theorem f8T:a0q Tryz.f68.body s68=some (unK s68,true):=by kernel_rfl
theorem f8U:a0M a0p Tryz.f68 0=true:=by kernel_rfl
def s69:SC:=(⟨_,by cbv⟩:{x//slW kf3 Tryz.f69.body []=x}).1
theorem f8V:a0q Tryz.f69.body s69=some (unK s69,true):=by kernel_rfl
theorem f8W:a0M a0p Tryz.f69 0=true:=by kernel_rfl
def s70:SC:=(⟨_,by cbv⟩:{x//slW kf3 Tryz.f70.body []=x}).1
theorem f8X:a0q Tryz.f70.body s70=some (unK s70,true):=by kernel_rfl
theorem f8Y:a0M a0p Tryz.f70 0=true:=by kernel_rfl
def c3G:SC:=(⟨_,by cbv⟩:{x//slB kf3 Tryz.f73.body [] 0=x}).1
def s73:SC:=(⟨_,fun a=>by cbv⟩:{x:SC->SC//∀a,slW kf3 Tryz.f73.body [a]=x a}).1 c3G
theorem f8Z:a0q Tryz.f73.body s73=some (unK s73,true):=by kernel_rfl
theorem f9a:a0M a0p Tryz.f73 0=true:=by kernel_rfl
def c3H:SC:=(⟨_,by cbv⟩:{x//slB kf3 Tryz.f75.body [] 0=x}).1
def s75:SC:=(⟨_,fun a=>by cbv⟩:{x:SC->SC//∀a,slW kf3 Tryz.f75.body [a]=x a}).1 c3H
theorem f9b:a0q Tryz.f75.body s75=some (unK s75,true):=by kernel_rfl
theorem f9c:a0M a0p Tryz.f75 0=true:=by kernel_rfl
def s77:SC:=(⟨_,by cbv⟩:{x//slW kf3 Tryz.f77.body []=x}).1
theorem f9d:a0q Tryz.f77.body s77=some (unK s77,true):=by kernel_rfl
theorem f9e:a0M a0p Tryz.f77 0=true:=by kernel_rfl
def d2H:SC:=(⟨_,by cbv⟩:{x//slW kf3 Tryz.f106.body []=x}).1
theorem e8q:a0q Tryz.f106.body d2H=some (unK d2H,true):=by kernel_rfl
theorem e8r:a0M a0p Tryz.f106 0=true:=by kernel_rfl
def e22:SC:=(⟨_,by cbv⟩:{x//slW kf3 Tryz.f109.body []=x}).1
theorem e8s:a0q Tryz.f109.body e22=some (unK e22,true):=by kernel_rfl
theorem e8t:a0M a0p Tryz.f109 0=true:=by kernel_rfl
def e23:SC:=(⟨_,by cbv⟩:{x//slW kf3 Tryz.f110.body []=x}).1
theorem e8u:a0q Tryz.f110.body e23=some (unK e23,true):=by kernel_rfl
theorem e8v:a0M a0p Tryz.f110 0=true:=by kernel_rfl
def c3I:SC:=(⟨_,by cbv⟩:{x//slB kf3 Tryz.f125.body [] 0=x}).1
def e8w:SC:=(⟨_,fun a=>by cbv⟩:{x:SC->SC//∀a,slW kf3 Tryz.f125.body [a]=x a}).1 c3I
theorem e8x:a0q Tryz.f125.body e8w=some (unK e8w,true):=by kernel_rfl
theorem e8y:a0M a0p Tryz.f125 0=true:=by kernel_rfl
def e8z:SC:=(⟨_,by cbv⟩:{x//slW kf3 Tryz.f135.body []=x}).1
theorem e8A:a0q Tryz.f135.body e8z=some (unK e8z,true):=by kernel_rfl
theorem e8B:a0M a0p Tryz.f135 0=true:=by kernel_rfl
def c3J:SC:=(⟨_,by cbv⟩:{x//slB kf3 Tryz.f160.body [] 0=x}).1
def e8C:SC:=(⟨_,fun a=>by cbv⟩:{x:SC->SC//∀a,slW kf3 Tryz.f160.body [a]=x a}).1 c3J
theorem e8D:a0q Tryz.f160.body e8C=some (unK e8C,true):=by kernel_rfl
theorem e8E:a0M a0p Tryz.f160 0=true:=by kernel_rfl
def c3K:SC:=(⟨_,by cbv⟩:{x//slB kf3 Tryz.f161.body [] 0=x}).1
def e8F:SC:=(⟨_,fun a=>by cbv⟩:{x:SC->SC//∀a,slW kf3 Tryz.f161.body [a]=x a}).1 c3K
theorem e8G:a0q Tryz.f161.body e8F=some (unK e8F,true):=by kernel_rfl
theorem e8H:a0M a0p Tryz.f161 0=true:=by kernel_rfl
def e8I:SC:=(⟨_,by cbv⟩:{x//slW kf3 Tryz.f165.body []=x}).1
theorem e8J:a0q Tryz.f165.body e8I=some (unK e8I,true):=by kernel_rfl
theorem e8K:a0M a0p Tryz.f165 0=true:=by kernel_rfl
def d6K:SC:=(⟨_,by cbv⟩:{x//slW kf3 Tryz.f166.body []=x}).1
theorem e8L:a0q Tryz.f166.body d6K=some (unK d6K,true):=by kernel_rfl
theorem e8M:a0M a0p Tryz.f166 0=true:=by kernel_rfl
def e24:SC:=(⟨_,by cbv⟩:{x//slW kf3 Tryz.f195.body []=x}).1
theorem e8N:a0q Tryz.f195.body e24=some (unK e24,true):=by kernel_rfl
theorem e8O:a0M a0p Tryz.f195 0=true:=by kernel_rfl
def e8P:SC:=(⟨_,by cbv⟩:{x//slW kf3 Tryz.f197.body []=x}).1
theorem e8Q:a0q Tryz.f197.body e8P=some (unK e8P,true):=by kernel_rfl
theorem e8R:a0M a0p Tryz.f197 0=true:=by kernel_rfl
def e8S:SC:=(⟨_,by cbv⟩:{x//slW kf3 Tryz.f219.body []=x}).1
theorem e8T:a0q Tryz.f219.body e8S=some (unK e8S,true):=by kernel_rfl
theorem e8U:a0M a0p Tryz.f219 0=true:=by kernel_rfl
attribute [simp] Tryz.results3 Tryz.results4 Tryz.results5 Tryz.results6 Tryz.results7 Tryz.results9 Tryz.results15 Tryz.results16 Tryz.results18 Tryz.results19 Tryz.results23 Tryz.results26 Tryz.results28 Tryz.results29 Tryz.results30 Tryz.results32 Tryz.results33 Tryz.results35 Tryz.results39 Tryz.results42 Tryz.results49 Tryz.results53 Tryz.results54 Tryz.results55 Tryz.results56 Tryz.results57 Tryz.results58 Tryz.results60 Tryz.results61 Tryz.results68 Tryz.results69 Tryz.results70 Tryz.results73 Tryz.results75 Tryz.results77 Tryz.results106 Tryz.results109 Tryz.results110 Tryz.results125 Tryz.results135 Tryz.results160 Tryz.results161 Tryz.results165 Tryz.results166 Tryz.results195 Tryz.results197 Tryz.results219
open Go Go.Proofs
def a01:List Nat:=[185,210,211,212,230,234,235,236]
def s17:SC:=(⟨_,by cbv⟩:{x//slW a01 Tryz.f17.body []=x}).1
theorem f9f:a0q Tryz.f17.body s17=some (unK s17,true):=by kernel_rfl
theorem f9g:a0M a0p Tryz.f17 0=true:=by kernel_rfl
def d0G:SC:=(⟨_,by cbv⟩:{x//slB a01 Tryz.f20.body [] 0=x}).1
def s20:SC:=(⟨_,fun a=>by cbv⟩:{x:SC->SC//∀a,slW a01 Tryz.f20.body [a]=x a}).1 d0G
theorem f9h:a0q Tryz.f20.body s20=some (unK s20,true):=by kernel_rfl
theorem f9i:a0M a0p Tryz.f20 0=true:=by kernel_rfl
def s21:SC:=(⟨_,by cbv⟩:{x//slW a01 Tryz.f21.body []=x}).1
theorem f9j:a0q Tryz.f21.body s21=some (unK s21,true):=by kernel_rfl
theorem f9k:a0M a0p Tryz.f21 0=true:=by kernel_rfl
def s22:SC:=(⟨_,by cbv⟩:{x//slW a01 Tryz.f22.body []=x}).1
theorem f9l:a0q Tryz.f22.body s22=some (unK s22,true):=by kernel_rfl
theorem f9m:a0M a0p Tryz.f22 0=true:=by kernel_rfl
def s24:SC:=(⟨_,by cbv⟩:{x//slW a01 Tryz.f24.body []=x}).1
theorem f9n:a0q Tryz.f24.body s24=some (unK s24,true):=by kernel_rfl
theorem f9o:a0M a0p Tryz.f24 0=true:=by kernel_rfl
def c3L:SC:=(⟨_,by cbv⟩:{x//slB a01 Tryz.f25.body [] 0=x}).1
def s25:SC:=(⟨_,fun a=>by cbv⟩:{x:SC->SC//∀a,slW a01 Tryz.f25.body [a]=x a}).1 c3L
theorem f9p:a0q Tryz.f25.body s25=some (unK s25,true):=by kernel_rfl
theorem f9q:a0M a0p Tryz.f25 0=true:=by kernel_rfl
def d0H:SC:=(⟨_,by cbv⟩:{x//slB a01 Tryz.f31.body [] 0=x}).1
def s31:SC:=(⟨_,fun a=>by cbv⟩:{x:SC->SC//∀a,slW a01 Tryz.f31.body [a]=x a}).1 d0H
theorem sl31:a0q Tryz.f31.body s31=some (unK s31,true):=by kernel_rfl
theorem f9r:a0M a0p Tryz.f31 0=true:=by kernel_rfl
def s45:SC:=(⟨_,by cbv⟩:{x//slW a01 Tryz.f45.body []=x}).1
theorem f9s:a0q Tryz.f45.body s45=some (unK s45,true):=by kernel_rfl
theorem f9t:a0M a0p Tryz.f45 0=true:=by kernel_rfl
def c7l:SC:=(⟨_,by cbv⟩:{x//slB a01 Tryz.f46.body [] 0=x}).1
def s46:SC:=(⟨_,fun a=>by cbv⟩:{x:SC->SC//∀a,slW a01 Tryz.f46.body [a]=x a}).1 c7l
theorem f9u:a0q Tryz.f46.body s46=some (unK s46,true):=by kernel_rfl
theorem f9v:a0M a0p Tryz.f46 0=true:=by kernel_rfl
def c3M:SC:=(⟨_,by cbv⟩:{x//slB a01 Tryz.f48.body [] 0=x}).1
def e8V:SC:=(⟨_,fun a=>by cbv⟩:{x:SC->SC//∀a,slB a01 Tryz.f48.body [a] 1=x a}).1 c3M
def s48:SC:=(⟨_,fun a b=>by cbv⟩:{x:SC->SC->SC//∀a b,slW a01 Tryz.f48.body [a,b]=x a b}).1 c3M e8V
theorem f9w:a0q Tryz.f48.body s48=some (unK s48,true):=by kernel_rfl
theorem f9x:a0M a0p Tryz.f48 0=true:=by kernel_rfl
def d0I:SC:=(⟨_,by cbv⟩:{x//slB a01 Tryz.f50.body [] 0=x}).1
def s50:SC:=(⟨_,fun a=>by cbv⟩:{x:SC->SC//∀a,slW a01 Tryz.f50.body [a]=x a}).1 d0I
theorem f9y:a0q Tryz.f50.body s50=some (unK s50,true):=by kernel_rfl
theorem f9z:a0M a0p Tryz.f50 0=true:=by kernel_rfl
def d0J:SC:=(⟨_,by cbv⟩:{x//slB a01 Tryz.f51.body [] 0=x}).1
def s51:SC:=(⟨_,fun a=>by cbv⟩:{x:SC->SC//∀a,slW a01 Tryz.f51.body [a]=x a}).1 d0J
theorem f9A:a0q Tryz.f51.body s51=some (unK s51,true):=by kernel_rfl
theorem f9B:a0M a0p Tryz.f51 0=true:=by kernel_rfl
def d6L:SC:=(⟨_,by cbv⟩:{x//slB a01 Tryz.f64.body [] 0=x}).1
def s64:SC:=(⟨_,fun a=>by cbv⟩:{x:SC->SC//∀a,slW a01 Tryz.f64.body [a]=x a}).1 d6L
theorem sl64:a0q Tryz.f64.body s64=some (unK s64,true):=by kernel_rfl
theorem f9C:a0M a0p Tryz.f64 0=true:=by kernel_rfl
def d0K:SC:=(⟨_,by cbv⟩:{x//slB a01 Tryz.f65.body [] 0=x}).1
def s65:SC:=(⟨_,fun a=>by cbv⟩:{x:SC->SC//∀a,slW a01 Tryz.f65.body [a]=x a}).1 d0K
theorem f9D:a0q Tryz.f65.body s65=some (unK s65,true):=by kernel_rfl
theorem f9E:a0M a0p Tryz.f65 0=true:=by kernel_rfl
def d0L:SC:=(⟨_,by cbv⟩:{x//slB a01 Tryz.f66.body [] 0=x}).1
def s66:SC:=(⟨_,fun a=>by cbv⟩:{x:SC->SC//∀a,slW a01 Tryz.f66.body [a]=x a}).1 d0L
theorem f9F:a0q Tryz.f66.body s66=some (unK s66,true):=by kernel_rfl
theorem f9G:a0M a0p Tryz.f66 0=true:=by kernel_rfl
def s72:SC:=(⟨_,by cbv⟩:{x//slW a01 Tryz.f72.body []=x}).1
theorem f9H:a0q Tryz.f72.body s72=some (unK s72,true):=by kernel_rfl
theorem f9I:a0M a0p Tryz.f72 0=true:=by kernel_rfl
def b2I:SC:=(⟨_,by cbv⟩:{x//slB a01 Tryz.f76.body [] 0=x}).1
def s76:SC:=(⟨_,fun a=>by cbv⟩:{x:SC->SC//∀a,slW a01 Tryz.f76.body [a]=x a}).1 b2I
theorem f9J:a0q Tryz.f76.body s76=some (unK s76,true):=by kernel_rfl
theorem f9K:a0M a0p Tryz.f76 0=true:=by kernel_rfl
def d6M:SC:=(⟨_,by cbv⟩:{x//slB a01 Tryz.f80.body [] 0=x}).1
def s80:SC:=(⟨_,fun a=>by cbv⟩:{x:SC->SC//∀a,slW a01 Tryz.f80.body [a]=x a}).1 d6M
theorem f9L:a0q Tryz.f80.body s80=some (unK s80,true):=by kernel_rfl
theorem f9M:a0M a0p Tryz.f80 0=true:=by kernel_rfl
def s89:SC:=(⟨_,by cbv⟩:{x//slW a01 Tryz.f89.body []=x}).1
theorem f9N:a0q Tryz.f89.body s89=some (unK s89,true):=by kernel_rfl
theorem f9O:a0M a0p Tryz.f89 0=true:=by kernel_rfl
def s97:SC:=(⟨_,by cbv⟩:{x//slW a01 Tryz.f97.body []=x}).1
theorem f9P:a0q Tryz.f97.body s97=some (unK s97,true):=by kernel_rfl
theorem f9Q:a0M a0p Tryz.f97 0=true:=by kernel_rfl
def s98:SC:=(⟨_,by cbv⟩:{x//slW a01 Tryz.f98.body []=x}).1
theorem f9R:a0q Tryz.f98.body s98=some (unK s98,true):=by kernel_rfl
theorem f9S:a0M a0p Tryz.f98 0=true:=by kernel_rfl
def c3N:SC:=(⟨_,by cbv⟩:{x//slB a01 Tryz.f99.body [] 0=x}).1
def s99:SC:=(⟨_,fun a=>by cbv⟩:{x:SC->SC//∀a,slW a01 Tryz.f99.body [a]=x a}).1 c3N
theorem f9T:a0q Tryz.f99.body s99=some (unK s99,true):=by kernel_rfl
theorem f9U:a0M a0p Tryz.f99 0=true:=by kernel_rfl
def b50:SC:=(⟨_,by cbv⟩:{x//slB a01 Tryz.f100.body [] 0=x}).1
def e8W:SC:=(⟨_,fun a=>by cbv⟩:{x:SC->SC//∀a,slW a01 Tryz.f100.body [a]=x a}).1 b50
theorem e8X:a0q Tryz.f100.body e8W=some (unK e8W,true):=by kernel_rfl
theorem e8Y:a0M a0p Tryz.f100 0=true:=by kernel_rfl
def e8Z:SC:=(⟨_,by cbv⟩:{x//slW a01 Tryz.f101.body []=x}).1
theorem e80:a0q Tryz.f101.body e8Z=some (unK e8Z,true):=by kernel_rfl
theorem e81:a0M a0p Tryz.f101 0=true:=by kernel_rfl
def e82:SC:=(⟨_,by cbv⟩:{x//slW a01 Tryz.f102.body []=x}).1
theorem e83:a0q Tryz.f102.body e82=some (unK e82,true):=by kernel_rfl
theorem e84:a0M a0p Tryz.f102 0=true:=by kernel_rfl
def c3O:SC:=(⟨_,by cbv⟩:{x//slB a01 Tryz.f103.body [] 0=x}).1
def e85:SC:=(⟨_,fun a=>by cbv⟩:{x:SC->SC//∀a,slW a01 Tryz.f103.body [a]=x a}).1 c3O
theorem e86:a0q Tryz.f103.body e85=some (unK e85,true):=by kernel_rfl
theorem e87:a0M a0p Tryz.f103 0=true:=by kernel_rfl
def e88:SC:=(⟨_,by cbv⟩:{x//slW a01 Tryz.f104.body []=x}).1
theorem e89:a0q Tryz.f104.body e88=some (unK e88,true):=by kernel_rfl
theorem e9a:a0M a0p Tryz.f104 0=true:=by kernel_rfl
def e9b:SC:=(⟨_,by cbv⟩:{x//slW a01 Tryz.f105.body []=x}).1
theorem e9c:a0q Tryz.f105.body e9b=some (unK e9b,true):=by kernel_rfl
theorem e9d:a0M a0p Tryz.f105 0=true:=by kernel_rfl
def b1p:SC:=(⟨_,by cbv⟩:{x//slB a01 Tryz.f107.body [] 0=x}).1
def c8R:SC:=(⟨_,fun a=>by cbv⟩:{x:SC->SC//∀a,slW a01 Tryz.f107.body [a]=x a}).1 b1p
theorem e9e:a0q Tryz.f107.body c8R=some (unK c8R,true):=by kernel_rfl
theorem e9f:a0M a0p Tryz.f107 0=true:=by kernel_rfl
def e9g:SC:=(⟨_,by cbv⟩:{x//slW a01 Tryz.f108.body []=x}).1
theorem e9h:a0q Tryz.f108.body e9g=some (unK e9g,true):=by kernel_rfl
theorem e9i:a0M a0p Tryz.f108 0=true:=by kernel_rfl
def c3P:SC:=(⟨_,by cbv⟩:{x//slB a01 Tryz.f112.body [] 0=x}).1
def e9j:SC:=(⟨_,fun a=>by cbv⟩:{x:SC->SC//∀a,slW a01 Tryz.f112.body [a]=x a}).1 c3P
theorem e9k:a0q Tryz.f112.body e9j=some (unK e9j,true):=by kernel_rfl
theorem e9l:a0M a0p Tryz.f112 0=true:=by kernel_rfl
def e9m:SC:=(⟨_,by cbv⟩:{x//slW a01 Tryz.f113.body []=x}).1
theorem e9n:a0q Tryz.f113.body e9m=some (unK e9m,true):=by kernel_rfl
theorem e9o:a0M a0p Tryz.f113 0=true:=by kernel_rfl
def c3Q:SC:=(⟨_,by cbv⟩:{x//slB a01 Tryz.f114.body [] 0=x}).1
def e9p:SC:=(⟨_,fun a=>by cbv⟩:{x:SC->SC//∀a,slW a01 Tryz.f114.body [a]=x a}).1 c3Q
theorem e9q:a0q Tryz.f114.body e9p=some (unK e9p,true):=by kernel_rfl
theorem e9r:a0M a0p Tryz.f114 0=true:=by kernel_rfl
def d6N:SC:=(⟨_,by cbv⟩:{x//slW a01 Tryz.f117.body []=x}).1
theorem e9s:a0q Tryz.f117.body d6N=some (unK d6N,true):=by kernel_rfl
theorem e9t:a0M a0p Tryz.f117 0=true:=by kernel_rfl
def e9u:SC:=(⟨_,by cbv⟩:{x//slW a01 Tryz.f118.body []=x}).1
theorem e9v:a0q Tryz.f118.body e9u=some (unK e9u,true):=by kernel_rfl
theorem e9w:a0M a0p Tryz.f118 0=true:=by kernel_rfl
def b1q:SC:=(⟨_,by cbv⟩:{x//slB a01 Tryz.f119.body [] 0=x}).1
def e9x:SC:=(⟨_,fun a=>by cbv⟩:{x:SC->SC//∀a,slW a01 Tryz.f119.body [a]=x a}).1 b1q
theorem e9y:a0q Tryz.f119.body e9x=some (unK e9x,true):=by kernel_rfl
theorem e9z:a0M a0p Tryz.f119 0=true:=by kernel_rfl
def d6O:SC:=(⟨_,by cbv⟩:{x//slW a01 Tryz.f120.body []=x}).1
theorem e9A:a0q Tryz.f120.body d6O=some (unK d6O,true):=by kernel_rfl
theorem e9B:a0M a0p Tryz.f120 0=true:=by kernel_rfl
def e25:SC:=(⟨_,by cbv⟩:{x//slW a01 Tryz.f121.body []=x}).1
theorem e9C:a0q Tryz.f121.body e25=some (unK e25,true):=by kernel_rfl
theorem e9D:a0M a0p Tryz.f121 0=true:=by kernel_rfl
def d6P:SC:=(⟨_,by cbv⟩:{x//slW a01 Tryz.f122.body []=x}).1
theorem e9E:a0q Tryz.f122.body d6P=some (unK d6P,true):=by kernel_rfl
theorem e9F:a0M a0p Tryz.f122 0=true:=by kernel_rfl
def c0c:SC:=(⟨_,by cbv⟩:{x//slB a01 Tryz.f123.body [] 0=x}).1
def e26:SC:=(⟨_,fun a=>by cbv⟩:{x:SC->SC//∀a,slW a01 Tryz.f123.body [a]=x a}).1 c0c
theorem e9G:a0q Tryz.f123.body e26=some (unK e26,true):=by kernel_rfl
theorem e9H:a0M a0p Tryz.f123 0=true:=by kernel_rfl
def b51:SC:=(⟨_,by cbv⟩:{x//slB a01 Tryz.f124.body [] 0=x}).1
def f5A:SC:=(⟨_,fun a=>by cbv⟩:{x:SC->SC//∀a,slW a01 Tryz.f124.body [a]=x a}).1 b51
theorem e9I:a0q Tryz.f124.body f5A=some (unK f5A,true):=by kernel_rfl
theorem e9J:a0M a0p Tryz.f124 0=true:=by kernel_rfl
def a90:SC:=(⟨_,by cbv⟩:{x//slB a01 Tryz.f130.body [] 0=x}).1
def e27:SC:=(⟨_,fun a=>by cbv⟩:{x:SC->SC//∀a,slW a01 Tryz.f130.body [a]=x a}).1 a90
theorem e9K:a0q Tryz.f130.body e27=some (unK e27,true):=by kernel_rfl
theorem e9L:a0M a0p Tryz.f130 0=true:=by kernel_rfl
def e28:SC:=(⟨_,by cbv⟩:{x//slW a01 Tryz.f131.body []=x}).1
theorem d6Q:a0q Tryz.f131.body e28=some (unK e28,true):=by kernel_rfl
theorem d6R:a0M a0p Tryz.f131 0=true:=by kernel_rfl
def c3R:SC:=(⟨_,by cbv⟩:{x//slB a01 Tryz.f132.body [] 0=x}).1
def e9M:SC:=(⟨_,fun a=>by cbv⟩:{x:SC->SC//∀a,slW a01 Tryz.f132.body [a]=x a}).1 c3R
theorem e9N:a0q Tryz.f132.body e9M=some (unK e9M,true):=by kernel_rfl
theorem e9O:a0M a0p Tryz.f132 0=true:=by kernel_rfl
def c3S:SC:=(⟨_,by cbv⟩:{x//slB a01 Tryz.f133.body [] 0=x}).1
def e9P:SC:=(⟨_,fun a=>by cbv⟩:{x:SC->SC//∀a,slW a01 Tryz.f133.body [a]=x a}).1 c3S
theorem e9Q:a0q Tryz.f133.body e9P=some (unK e9P,true):=by kernel_rfl
theorem e9R:a0M a0p Tryz.f133 0=true:=by kernel_rfl
def c3T:SC:=(⟨_,by cbv⟩:{x//slW a01 Tryz.f134.body []=x}).1
theorem e9S:a0q Tryz.f134.body c3T=some (unK c3T,true):=by kernel_rfl
theorem e9T:a0M a0p Tryz.f134 0=true:=by kernel_rfl
def d0M:SC:=(⟨_,by cbv⟩:{x//slW a01 Tryz.f142.body []=x}).1
theorem e9U:a0q Tryz.f142.body d0M=some (unK d0M,true):=by kernel_rfl
theorem e9V:a0M a0p Tryz.f142 0=true:=by kernel_rfl
def a92:SC:=(⟨_,by cbv⟩:{x//slB a01 Tryz.f143.body [] 0=x}).1
def e9W:SC:=(⟨_,fun a=>by cbv⟩:{x:SC->SC//∀a,slW a01 Tryz.f143.body [a]=x a}).1 a92
theorem e9X:a0q Tryz.f143.body e9W=some (unK e9W,true):=by kernel_rfl
theorem e9Y:a0M a0p Tryz.f143 0=true:=by kernel_rfl
def e29:SC:=(⟨_,by cbv⟩:{x//slW a01 Tryz.f144.body []=x}).1
theorem e9Z:a0q Tryz.f144.body e29=some (unK e29,true):=by kernel_rfl
theorem e90:a0M a0p Tryz.f144 0=true:=by kernel_rfl
def d0N:SC:=(⟨_,by cbv⟩:{x//slW a01 Tryz.f145.body []=x}).1
theorem e91:a0q Tryz.f145.body d0N=some (unK d0N,true):=by kernel_rfl
theorem e92:a0M a0p Tryz.f145 0=true:=by kernel_rfl
def e3a:SC:=(⟨_,by cbv⟩:{x//slW a01 Tryz.f146.body []=x}).1
theorem e93:a0q Tryz.f146.body e3a=some (unK e3a,true):=by kernel_rfl
theorem e94:a0M a0p Tryz.f146 0=true:=by kernel_rfl
def d2I:SC:=(⟨_,by cbv⟩:{x//slW a01 Tryz.f147.body []=x}).1
theorem e95:a0q Tryz.f147.body d2I=some (unK d2I,true):=by kernel_rfl
theorem e96:a0M a0p Tryz.f147 0=true:=by kernel_rfl
def e3b:SC:=(⟨_,by cbv⟩:{x//slW a01 Tryz.f148.body []=x}).1
theorem e97:a0q Tryz.f148.body e3b=some (unK e3b,true):=by kernel_rfl
theorem e98:a0M a0p Tryz.f148 0=true:=by kernel_rfl
def e99:SC:=(⟨_,by cbv⟩:{x//slW a01 Tryz.f149.body []=x}).1
theorem f0a:a0q Tryz.f149.body e99=some (unK e99,true):=by kernel_rfl
theorem f0b:a0M a0p Tryz.f149 0=true:=by kernel_rfl
def b52:SC:=(⟨_,by cbv⟩:{x//slB a01 Tryz.f150.body [] 0=x}).1
def f0c:SC:=(⟨_,fun a=>by cbv⟩:{x:SC->SC//∀a,slW a01 Tryz.f150.body [a]=x a}).1 b52
theorem f0d:a0q Tryz.f150.body f0c=some (unK f0c,true):=by kernel_rfl
theorem f0e:a0M a0p Tryz.f150 0=true:=by kernel_rfl
def e3c:SC:=(⟨_,by cbv⟩:{x//slW a01 Tryz.f151.body []=x}).1
theorem d6S:a0q Tryz.f151.body e3c=some (unK e3c,true):=by kernel_rfl
theorem d6T:a0M a0p Tryz.f151 0=true:=by kernel_rfl
def f0f:SC:=(⟨_,by cbv⟩:{x//slW a01 Tryz.f152.body []=x}).1
theorem f0g:a0q Tryz.f152.body f0f=some (unK f0f,true):=by kernel_rfl
theorem f0h:a0M a0p Tryz.f152 0=true:=by kernel_rfl
def d2J:SC:=(⟨_,by cbv⟩:{x//slW a01 Tryz.f153.body []=x}).1
theorem f0i:a0q Tryz.f153.body d2J=some (unK d2J,true):=by kernel_rfl
theorem f0j:a0M a0p Tryz.f153 0=true:=by kernel_rfl
def f0k:SC:=(⟨_,by cbv⟩:{x//slW a01 Tryz.f154.body []=x}).1
theorem f0l:a0q Tryz.f154.body f0k=some (unK f0k,true):=by kernel_rfl
theorem f0m:a0M a0p Tryz.f154 0=true:=by kernel_rfl
def d6U:SC:=(⟨_,by cbv⟩:{x//slW a01 Tryz.f155.body []=x}).1
theorem f0n:a0q Tryz.f155.body d6U=some (unK d6U,true):=by kernel_rfl
theorem f0o:a0M a0p Tryz.f155 0=true:=by kernel_rfl
def f0p:SC:=(⟨_,by cbv⟩:{x//slW a01 Tryz.f156.body []=x}).1
theorem f0q:a0q Tryz.f156.body f0p=some (unK f0p,true):=by kernel_rfl
theorem f0r:a0M a0p Tryz.f156 0=true:=by kernel_rfl
def d2K:SC:=(⟨_,by cbv⟩:{x//slW a01 Tryz.f157.body []=x}).1
theorem f0s:a0q Tryz.f157.body d2K=some (unK d2K,true):=by kernel_rfl
theorem f0t:a0M a0p Tryz.f157 0=true:=by kernel_rfl
def f0u:SC:=(⟨_,by cbv⟩:{x//slW a01 Tryz.f158.body []=x}).1
theorem f0v:a0q Tryz.f158.body f0u=some (unK f0u,true):=by kernel_rfl
theorem f0w:a0M a0p Tryz.f158 0=true:=by kernel_rfl
def f0x:SC:=(⟨_,by cbv⟩:{x//slW a01 Tryz.f159.body []=x}).1
theorem f0y:a0q Tryz.f159.body f0x=some (unK f0x,true):=by kernel_rfl
theorem f0z:a0M a0p Tryz.f159 0=true:=by kernel_rfl
def f0A:SC:=(⟨_,by cbv⟩:{x//slW a01 Tryz.f162.body []=x}).1
theorem f0B:a0q Tryz.f162.body f0A=some (unK f0A,true):=by kernel_rfl
theorem f0C:a0M a0p Tryz.f162 0=true:=by kernel_rfl
def d0O:SC:=(⟨_,by cbv⟩:{x//slW a01 Tryz.f163.body []=x}).1
theorem f0D:a0q Tryz.f163.body d0O=some (unK d0O,true):=by kernel_rfl
theorem f0E:a0M a0p Tryz.f163 0=true:=by kernel_rfl
def d6V:SC:=(⟨_,by cbv⟩:{x//slW a01 Tryz.f164.body []=x}).1
theorem f0F:a0q Tryz.f164.body d6V=some (unK d6V,true):=by kernel_rfl
theorem f0G:a0M a0p Tryz.f164 0=true:=by kernel_rfl
def c3U:SC:=(⟨_,by cbv⟩:{x//slB a01 Tryz.f168.body [] 0=x}).1
def e3d:SC:=(⟨_,fun a=>by cbv⟩:{x:SC->SC//∀a,slW a01 Tryz.f168.body [a]=x a}).1 c3U
theorem f0H:a0q Tryz.f168.body e3d=some (unK e3d,true):=by kernel_rfl
theorem f0I:a0M a0p Tryz.f168 0=true:=by kernel_rfl
def c54:SC:=(⟨_,by cbv⟩:{x//slW a01 Tryz.f170.body []=x}).1
theorem f0J:a0q Tryz.f170.body c54=some (unK c54,true):=by kernel_rfl
theorem f0K:a0M a0p Tryz.f170 0=true:=by kernel_rfl
def b53:SC:=(⟨_,by cbv⟩:{x//slB a01 Tryz.f171.body [] 0=x}).1
def f0L:SC:=(⟨_,fun a=>by cbv⟩:{x:SC->SC//∀a,slW a01 Tryz.f171.body [a]=x a}).1 b53
theorem f0M:a0q Tryz.f171.body f0L=some (unK f0L,true):=by kernel_rfl
theorem f0N:a0M a0p Tryz.f171 0=true:=by kernel_rfl
def c3V:SC:=(⟨_,by cbv⟩:{x//slB a01 Tryz.f172.body [] 0=x}).1
def e3e:SC:=(⟨_,fun a=>by cbv⟩:{x:SC->SC//∀a,slW a01 Tryz.f172.body [a]=x a}).1 c3V
theorem f0O:a0q Tryz.f172.body e3e=some (unK e3e,true):=by kernel_rfl
theorem f0P:a0M a0p Tryz.f172 0=true:=by kernel_rfl
def d6W:SC:=(⟨_,by cbv⟩:{x//slW a01 Tryz.f175.body []=x}).1
theorem f0Q:a0q Tryz.f175.body d6W=some (unK d6W,true):=by kernel_rfl
theorem f0R:a0M a0p Tryz.f175 0=true:=by kernel_rfl
def c3W:SC:=(⟨_,by cbv⟩:{x//slB a01 Tryz.f176.body [] 0=x}).1
def f0S:SC:=(⟨_,fun a=>by cbv⟩:{x:SC->SC//∀a,slW a01 Tryz.f176.body [a]=x a}).1 c3W
theorem f0T:a0q Tryz.f176.body f0S=some (unK f0S,true):=by kernel_rfl
theorem f0U:a0M a0p Tryz.f176 0=true:=by kernel_rfl
def e3f:SC:=(⟨_,by cbv⟩:{x//slW a01 Tryz.f184.body []=x}).1
theorem f0V:a0q Tryz.f184.body e3f=some (unK e3f,true):=by kernel_rfl
theorem f0W:a0M a0p Tryz.f184 0=true:=by kernel_rfl
def c0d:SC:=(⟨_,by cbv⟩:{x//slB a01 Tryz.f185.body [] 0=x}).1
def d6X:SC:=(⟨_,fun a=>by cbv⟩:{x:SC->SC//∀a,slW a01 Tryz.f185.body [a]=x a}).1 c0d
theorem f0X:a0q Tryz.f185.body d6X=some (unK d6X,true):=by kernel_rfl
theorem f0Y:a0M a0p Tryz.f185 0=true:=by kernel_rfl
def e3g:SC:=(⟨_,by cbv⟩:{x//slW a01 Tryz.f186.body []=x}).1
theorem f0Z:a0q Tryz.f186.body e3g=some (unK e3g,true):=by kernel_rfl
theorem f00:a0M a0p Tryz.f186 0=true:=by kernel_rfl
def a7w:SC:=(⟨_,by cbv⟩:{x//slB a01 Tryz.f187.body [] 0=x}).1
def e3h:SC:=(⟨_,fun a=>by cbv⟩:{x:SC->SC//∀a,slW a01 Tryz.f187.body [a]=x a}).1 a7w
theorem d6Y:a0q Tryz.f187.body e3h=some (unK e3h,true):=by kernel_rfl
theorem d6Z:a0M a0p Tryz.f187 0=true:=by kernel_rfl
def b47:SC:=(⟨_,by cbv⟩:{x//slW a01 Tryz.f188.body []=x}).1
theorem f01:a0q Tryz.f188.body b47=some (unK b47,true):=by kernel_rfl
theorem f02:a0M a0p Tryz.f188 0=true:=by kernel_rfl
def c0e:SC:=(⟨_,by cbv⟩:{x//slW a01 Tryz.f189.body []=x}).1
theorem f03:a0q Tryz.f189.body c0e=some (unK c0e,true):=by kernel_rfl
theorem f04:a0M a0p Tryz.f189 0=true:=by kernel_rfl
def f05:SC:=(⟨_,by cbv⟩:{x//slW a01 Tryz.f191.body []=x}).1
theorem f06:a0q Tryz.f191.body f05=some (unK f05,true):=by kernel_rfl
theorem f07:a0M a0p Tryz.f191 0=true:=by kernel_rfl
def b54:SC:=(⟨_,by cbv⟩:{x//slB a01 Tryz.f192.body [] 0=x}).1
def f08:SC:=(⟨_,fun a=>by cbv⟩:{x:SC->SC//∀a,slW a01 Tryz.f192.body [a]=x a}).1 b54
theorem f09:a0q Tryz.f192.body f08=some (unK f08,true):=by kernel_rfl
theorem f1a:a0M a0p Tryz.f192 0=true:=by kernel_rfl
def f1b:SC:=(⟨_,by cbv⟩:{x//slW a01 Tryz.f193.body []=x}).1
theorem f1c:a0q Tryz.f193.body f1b=some (unK f1b,true):=by kernel_rfl
theorem f1d:a0M a0p Tryz.f193 0=true:=by kernel_rfl
def e3i:SC:=(⟨_,by cbv⟩:{x//slW a01 Tryz.f194.body []=x}).1
theorem f1e:a0q Tryz.f194.body e3i=some (unK e3i,true):=by kernel_rfl
theorem f1f:a0M a0p Tryz.f194 0=true:=by kernel_rfl
def f1g:SC:=(⟨_,by cbv⟩:{x//slW a01 Tryz.f196.body []=x}).1
theorem f1h:a0q Tryz.f196.body f1g=some (unK f1g,true):=by kernel_rfl
theorem f1i:a0M a0p Tryz.f196 0=true:=by kernel_rfl
def f1j:SC:=(⟨_,by cbv⟩:{x//slW a01 Tryz.f198.body []=x}).1
theorem f1k:a0q Tryz.f198.body f1j=some (unK f1j,true):=by kernel_rfl
theorem f1l:a0M a0p Tryz.f198 0=true:=by kernel_rfl
def f1m:SC:=(⟨_,by cbv⟩:{x//slW a01 Tryz.f199.body []=x}).1
theorem f1n:a0q Tryz.f199.body f1m=some (unK f1m,true):=by kernel_rfl
theorem f1o:a0M a0p Tryz.f199 0=true:=by kernel_rfl
def f1p:SC:=(⟨_,by cbv⟩:{x//slW a01 Tryz.f201.body []=x}).1
theorem f1q:a0q Tryz.f201.body f1p=some (unK f1p,true):=by kernel_rfl
theorem f1r:a0M a0p Tryz.f201 0=true:=by kernel_rfl
def f1s:SC:=(⟨_,by cbv⟩:{x//slW a01 Tryz.f202.body []=x}).1
theorem f1t:a0q Tryz.f202.body f1s=some (unK f1s,true):=by kernel_rfl
theorem f1u:a0M a0p Tryz.f202 0=true:=by kernel_rfl
def d0P:SC:=(⟨_,by cbv⟩:{x//slW a01 Tryz.f204.body []=x}).1
theorem f1v:a0q Tryz.f204.body d0P=some (unK d0P,true):=by kernel_rfl
theorem f1w:a0M a0p Tryz.f204 0=true:=by kernel_rfl
def c55:SC:=(⟨_,by cbv⟩:{x//slW a01 Tryz.f205.body []=x}).1
theorem f1x:a0q Tryz.f205.body c55=some (unK c55,true):=by kernel_rfl
theorem f1y:a0M a0p Tryz.f205 0=true:=by kernel_rfl
def c3X:SC:=(⟨_,by cbv⟩:{x//slB a01 Tryz.f209.body [] 0=x}).1
def f1z:SC:=(⟨_,fun a=>by cbv⟩:{x:SC->SC//∀a,slW a01 Tryz.f209.body [a]=x a}).1 c3X
theorem f1A:a0q Tryz.f209.body f1z=some (unK f1z,true):=by kernel_rfl
theorem f1B:a0M a0p Tryz.f209 0=true:=by kernel_rfl
def d2L:SC:=(⟨_,by cbv⟩:{x//slW a01 Tryz.f210.body []=x}).1
theorem f1C:a0q Tryz.f210.body d2L=some (unK d2L,true):=by kernel_rfl
theorem f1D:a0M a0p Tryz.f210 0=true:=by kernel_rfl
def f1E:SC:=(⟨_,by cbv⟩:{x//slW a01 Tryz.f211.body []=x}).1
theorem f1F:a0q Tryz.f211.body f1E=some (unK f1E,true):=by kernel_rfl
theorem f1G:a0M a0p Tryz.f211 0=true:=by kernel_rfl
def d2M:SC:=(⟨_,by cbv⟩:{x//slW a01 Tryz.f212.body []=x}).1
theorem f1H:a0q Tryz.f212.body d2M=some (unK d2M,true):=by kernel_rfl
theorem f1I:a0M a0p Tryz.f212 0=true:=by kernel_rfl
def d2N:SC:=(⟨_,by cbv⟩:{x//slW a01 Tryz.f213.body []=x}).1
theorem f1J:a0q Tryz.f213.body d2N=some (unK d2N,true):=by kernel_rfl
theorem f1K:a0M a0p Tryz.f213 0=true:=by kernel_rfl
def e3j:SC:=(⟨_,by cbv⟩:{x//slW a01 Tryz.f214.body []=x}).1
theorem f1L:a0q Tryz.f214.body e3j=some (unK e3j,true):=by kernel_rfl
theorem f1M:a0M a0p Tryz.f214 0=true:=by kernel_rfl
def f1N:SC:=(⟨_,by cbv⟩:{x//slW a01 Tryz.f215.body []=x}).1
theorem f1O:a0q Tryz.f215.body f1N=some (unK f1N,true):=by kernel_rfl
theorem f1P:a0M a0p Tryz.f215 0=true:=by kernel_rfl
def a8U:SC:=(⟨_,by cbv⟩:{x//slB a01 Tryz.f216.body [] 0=x}).1
def f1Q:SC:=(⟨_,fun a=>by cbv⟩:{x:SC->SC//∀a,slW a01 Tryz.f216.body [a]=x a}).1 a8U
theorem f1R:a0q Tryz.f216.body f1Q=some (unK f1Q,true):=by kernel_rfl
theorem f1S:a0M a0p Tryz.f216 0=true:=by kernel_rfl
def f1T:SC:=(⟨_,by cbv⟩:{x//slW a01 Tryz.f217.body []=x}).1
theorem f1U:a0q Tryz.f217.body f1T=some (unK f1T,true):=by kernel_rfl
theorem f1V:a0M a0p Tryz.f217 0=true:=by kernel_rfl
def c3Y:SC:=(⟨_,by cbv⟩:{x//slB a01 Tryz.f218.body [] 0=x}).1
def f1W:SC:=(⟨_,fun a=>by cbv⟩:{x:SC->SC//∀a,slW a01 Tryz.f218.body [a]=x a}).1 c3Y
theorem f1X:a0q Tryz.f218.body f1W=some (unK f1W,true):=by kernel_rfl
theorem f1Y:a0M a0p Tryz.f218 0=true:=by kernel_rfl
def c0f:SC:=(⟨_,by cbv⟩:{x//slB a01 Tryz.f220.body [] 0=x}).1
def f1Z:SC:=(⟨_,fun a=>by cbv⟩:{x:SC->SC//∀a,slW a01 Tryz.f220.body [a]=x a}).1 c0f
theorem f2a:a0q Tryz.f220.body f1Z=some (unK f1Z,true):=by kernel_rfl
theorem f2b:a0M a0p Tryz.f220 0=true:=by kernel_rfl
def c3Z:SC:=(⟨_,by cbv⟩:{x//slB a01 Tryz.f221.body [] 0=x}).1
def f2c:SC:=(⟨_,fun a=>by cbv⟩:{x:SC->SC//∀a,slW a01 Tryz.f221.body [a]=x a}).1 c3Z
theorem f2d:a0q Tryz.f221.body f2c=some (unK f2c,true):=by kernel_rfl
theorem f2e:a0M a0p Tryz.f221 0=true:=by kernel_rfl
def e3k:SC:=(⟨_,by cbv⟩:{x//slW a01 Tryz.f222.body []=x}).1
theorem f2f:a0q Tryz.f222.body e3k=some (unK e3k,true):=by kernel_rfl
theorem f2g:a0M a0p Tryz.f222 0=true:=by kernel_rfl
def d7a:SC:=(⟨_,by cbv⟩:{x//slW a01 Tryz.f225.body []=x}).1
theorem f2h:a0q Tryz.f225.body d7a=some (unK d7a,true):=by kernel_rfl
theorem f2i:a0M a0p Tryz.f225 0=true:=by kernel_rfl
def f2j:SC:=(⟨_,by cbv⟩:{x//slW a01 Tryz.f227.body []=x}).1
theorem f2k:a0q Tryz.f227.body f2j=some (unK f2j,true):=by kernel_rfl
theorem f2l:a0M a0p Tryz.f227 0=true:=by kernel_rfl
def f2m:SC:=(⟨_,by cbv⟩:{x//slW a01 Tryz.f228.body []=x}).1
theorem f2n:a0q Tryz.f228.body f2m=some (unK f2m,true):=by kernel_rfl
theorem f2o:a0M a0p Tryz.f228 0=true:=by kernel_rfl
def d7b:SC:=(⟨_,by cbv⟩:{x//slW a01 Tryz.f229.body []=x}).1
theorem f2p:a0q Tryz.f229.body d7b=some (unK d7b,true):=by kernel_rfl
theorem f2q:a0M a0p Tryz.f229 0=true:=by kernel_rfl
def a7x:SC:=(⟨_,by cbv⟩:{x//slB a01 Tryz.f230.body [] 0=x}).1
def d7c:SC:=(⟨_,fun a=>by cbv⟩:{x:SC->SC//∀a,slW a01 Tryz.f230.body [a]=x a}).1 a7x
theorem f2r:a0q Tryz.f230.body d7c=some (unK d7c,true):=by kernel_rfl
theorem f2s:a0M a0p Tryz.f230 0=true:=by kernel_rfl
def c56:SC:=(⟨_,by cbv⟩:{x//slW a01 Tryz.f232.body []=x}).1
theorem f2t:a0q Tryz.f232.body c56=some (unK c56,true):=by kernel_rfl
theorem f2u:a0M a0p Tryz.f232 0=true:=by kernel_rfl
def f2v:SC:=(⟨_,by cbv⟩:{x//slW a01 Tryz.f233.body []=x}).1
theorem f2w:a0q Tryz.f233.body f2v=some (unK f2v,true):=by kernel_rfl
theorem f2x:a0M a0p Tryz.f233 0=true:=by kernel_rfl
def e3l:SC:=(⟨_,by cbv⟩:{x//slW a01 Tryz.f234.body []=x}).1
theorem f2y:a0q Tryz.f234.body e3l=some (unK e3l,true):=by kernel_rfl
theorem f2z:a0M a0p Tryz.f234 0=true:=by kernel_rfl
def f2A:SC:=(⟨_,by cbv⟩:{x//slW a01 Tryz.f235.body []=x}).1
theorem f2B:a0q Tryz.f235.body f2A=some (unK f2A,true):=by kernel_rfl
theorem f2C:a0M a0p Tryz.f235 0=true:=by kernel_rfl
def e3m:SC:=(⟨_,by cbv⟩:{x//slW a01 Tryz.f236.body []=x}).1
theorem f2D:a0q Tryz.f236.body e3m=some (unK e3m,true):=by kernel_rfl
theorem f2E:a0M a0p Tryz.f236 0=true:=by kernel_rfl
def c0g:SC:=(⟨_,by cbv⟩:{x//slB a01 Tryz.f238.body [] 0=x}).1
def f2F:SC:=(⟨_,fun a=>by cbv⟩:{x:SC->SC//∀a,slW a01 Tryz.f238.body [a]=x a}).1 c0g
theorem f2G:a0q Tryz.f238.body f2F=some (unK f2F,true):=by kernel_rfl
theorem f2H:a0M a0p Tryz.f238 0=true:=by kernel_rfl
def d7d:SC:=(⟨_,by cbv⟩:{x//slW a01 Tryz.f239.body []=x}).1
theorem f2I:a0q Tryz.f239.body d7d=some (unK d7d,true):=by kernel_rfl
theorem f2J:a0M a0p Tryz.f239 0=true:=by kernel_rfl
def d7e:SC:=(⟨_,by cbv⟩:{x//slW a01 Tryz.f240.body []=x}).1
theorem f2K:a0q Tryz.f240.body d7e=some (unK d7e,true):=by kernel_rfl
theorem f2L:a0M a0p Tryz.f240 0=true:=by kernel_rfl
def f2M:SC:=(⟨_,by cbv⟩:{x//slW a01 Tryz.f241.body []=x}).1
theorem f2N:a0q Tryz.f241.body f2M=some (unK f2M,true):=by kernel_rfl
theorem f2O:a0M a0p Tryz.f241 0=true:=by kernel_rfl
attribute [simp] Tryz.results17 Tryz.results20 Tryz.results21 Tryz.results22 Tryz.results24 Tryz.results25 Tryz.results31 Tryz.results45 Tryz.results46 Tryz.results48 Tryz.results50 Tryz.results51 Tryz.results64 Tryz.results65 Tryz.results66 Tryz.results72 Tryz.results76 Tryz.results80 Tryz.results88 Tryz.results89 Tryz.results97 Tryz.results98 Tryz.results99 Tryz.results100 Tryz.results101 Tryz.results102 Tryz.results103 Tryz.results104 Tryz.results105 Tryz.results107 Tryz.results108 Tryz.results112 Tryz.results113 Tryz.results114 Tryz.results117 Tryz.results118 Tryz.results119 Tryz.results120 Tryz.results121 Tryz.results122 Tryz.results123 Tryz.results124 Tryz.results130 Tryz.results131 Tryz.results132 Tryz.results133 Tryz.results134 Tryz.results142 Tryz.results143 Tryz.results144 Tryz.results145 Tryz.results146 Tryz.results147 Tryz.results148 Tryz.results149 Tryz.results150 Tryz.results151 Tryz.results152 Tryz.results153 Tryz.results154 Tryz.results155 Tryz.results156 Tryz.results157 Tryz.results158 Tryz.results159 Tryz.results162 Tryz.results163 Tryz.results164 Tryz.results168 Tryz.results170 Tryz.results171 Tryz.results172 Tryz.results175 Tryz.results176 Tryz.results184 Tryz.results185 Tryz.results186 Tryz.results187 Tryz.results188 Tryz.results189 Tryz.results191 Tryz.results192 Tryz.results193 Tryz.results194 Tryz.results196 Tryz.results198 Tryz.results199 Tryz.results201 Tryz.results202 Tryz.results204 Tryz.results205 Tryz.results209 Tryz.results210 Tryz.results211 Tryz.results212 Tryz.results213 Tryz.results214 Tryz.results215 Tryz.results216 Tryz.results217 Tryz.results218 Tryz.results220 Tryz.results221 Tryz.results222 Tryz.results225 Tryz.results227 Tryz.results228 Tryz.results229 Tryz.results230 Tryz.results232 Tryz.results233 Tryz.results234 Tryz.results235 Tryz.results236 Tryz.results238 Tryz.results239 Tryz.results240 Tryz.results241
open Go Go.Proofs
theorem c0h (n hi:Int):PEv Tryz.prog 63 [.c (.raw (.int .i64 n)),.c (.raw (.int .i64 hi))] (.c (.raw (.bool (decide (0<=n)&&decide (n<=hi))))):=by
 refine a0f mixed b2A Tryz.func63 f6I f6J (by kernel_rfl) (by simp) (by simp) ?_
 simp [s63]
 omega
def within (i n:Int):Int:=(i%18446744073709551616)%n
theorem a4O {n:Int} (h1:0<=n) (h2:n<18446744073709551616):IntKind.wrap .u64 n=n:=by
 have:IntKind.wrap .u64 n=n%18446744073709551616:=by simp [IntKind.wrap,IntKind.bits,IntKind.signed]
 rw [this];omega
theorem f2P {n:Int}:IntKind.wrap .u64 n=n%18446744073709551616:=by simp [IntKind.wrap,IntKind.bits,IntKind.signed]
theorem c30 (i n:Int) (h1:0<n) (h2:n<=9223372036854775807):PEv Tryz.prog 91 [.c (.raw (.int .i64 i)),.c (.raw (.int .i64 n))] (.c (.raw (.int .i64 (within i n)))):=by
 refine a0f mixed b2A Tryz.func91 f7g f7h (by kernel_rfl) (by simp) (by simp) ?_
 simp [s91,f2P]
 have e:n%18446744073709551616=n:=by omega
 rw [e]
 refine ⟨by omega,?_⟩
 have h3:0<=i%18446744073709551616:=by omega
 rw [Int.tmod_eq_emod_of_nonneg h3]
 unfold within
 have h4:=Int.emod_nonneg (i%18446744073709551616) (by omega:n≠0)
 have h5:=Int.emod_lt_of_pos (i%18446744073709551616) h1
 exact a0d (by omega) (by omega)
theorem c1r (n:Nat):a3e (List.replicate n [AC.raw (.int .u8 0)])=some (List.replicate n 0):=by
 induction n with
 |zero=>rfl
 |succ n ih=>simp [List.replicate_succ,ih]
def blank:List UInt8:=List.replicate 32 0
theorem c7m (n:Nat) (h:n<=1000000):PEv Tryz.prog 85 [.c (.raw (.int .i64 n))] (.c (.str (List.replicate n 0))):=by
 refine a0f mixed b2A Tryz.func85 f7c f7d (by kernel_rfl) (by simp) (by simp) ?_
 simp [s85,c1r]
 omega
theorem c31 (n:Int) (h:0<=n/\n<=1000000):PEv Tryz.prog 85 [.c (.raw (.int .i64 n))] (.c (.str (List.replicate n.toNat 0))):=by
 have:=c7m n.toNat (by omega)
 rw [Int.toNat_of_nonneg h.1] at this
 exact this
def c32:List AV->Option (Prop×AV):=t2 (fun _ _=>True) fun n hi:Int=>.c (.raw (.bool (decide (0<=n)&&decide (n<=hi))))
@[simp] theorem f2Q {l:List AV}:c32 l=(t2 (fun _ _=>True) fun n hi:Int=>.c (.raw (.bool (decide (0<=n)&&decide (n<=hi))))) l:=(rfl)
def d7f:List AV->Option (Prop×AV):=t2 (fun _ n=>0<n/\n<=9223372036854775807) fun i n:Int=>.c (.raw (.int .i64 (within i n)))
def c33:List AV->Option (Prop×AV):=t1 (fun n=>0<=n/\n<=1000000) fun n:Int=>.c (.str (List.replicate n.toNat 0))
@[simp] theorem f2R {l:List AV}:c33 l=(t1 (fun n=>0<=n/\n<=1000000) fun n:Int=>.c (.str (List.replicate n.toNat 0))) l:=(rfl)
def d7g:List AV->Option (Prop×AV):=t2 (fun a b=>a.safe.length<4611686018427387904/\a.wait.length<4611686018427387904) fun a b:a0k=>.c (.raw (.bool (decide (a=b))))
def c34:List AV->Option (Prop×AV):=t1 (fun d=>d.safe.length<1000000/\d.wait.length<1000000) fun d:a0k=>.g (a0y d)
@[simp] theorem f2S {l:List AV}:c34 l=(t1 (fun d=>d.safe.length<1000000/\d.wait.length<1000000) fun d:a0k=>.g (a0y d)) l:=(rfl)
def F2:CT:=(63,.pu c32)::(91,.pu d7f)::(85,.pu c33)::(62,.pu d7g)::(34,.pu c34)::F1
theorem d0Q:a1k Tryz.prog F2:=⟨a0P fun n hi _=>c0h n hi,
 a0P fun i n h=>c30 i n h.1 h.2,
 a0n fun n h=>c31 n h,
 a0P fun a b h=>b5T a b h.1 h.2,
 a0n fun d h=>a5r d h.1 h.2,b2A⟩
@[simp] theorem e3n:a0c F2 63=some (.pu c32):=(rfl)
@[simp] theorem e3o:a0c F2 85=some (.pu c33):=(rfl)
@[simp] theorem e3p:a0c F2 34=some (.pu c34):=(rfl)
@[simp] theorem f2T {n:Nat} (h:(n==63||n==91||n==85||n==62||n==34)=false):a0c F2 n=a0c F1 n:=by
 simp only [Bool.or_eq_false_iff,beq_eq_false_iff_ne,ne_eq] at h
 simp [F2,a0c,h]
theorem a8e:PEv Tryz.prog 38 [] (.c (.str blank)):=by
 refine a0f mixed d0Q Tryz.func38 f6u f6v (by kernel_rfl) (by simp) (by simp) ?_
 simp [s38,blank]
open Go Go.Proofs
def a8V {α:Type} (f:α->Int):Int->List α->Int
 |n,[]=>n
 |n,x::r=>if n<1048576 then a8V f (n+f x) r else n
def a1Q (d:a0k):Int:=a8V (fun s:a4M=>(s.text.length:Int)/16) (a8V (fun s:List UInt8=>(s.length:Int)/64) ((d.safe.length:Int)/4+d.wait.length) d.safe) d.wait
theorem a7y {α:Type} (f:α->Int) (n:Int) (l:List α) (i:Nat) (h:i<l.length) (hn:n<1048576):a8V f n (l.drop i)=a8V f (n+f l[i]) (l.drop (i+1)):=by
 rw [List.drop_eq_getElem_cons h,a8V,if_pos hn]
theorem a7z {α:Type} (f:α->Int) (n:Int) (l:List α) (h:¬n<1048576):a8V f n l=n:=by
 cases l with
 |nil=>rfl
 |cons x r=>rw [a8V,if_neg h]
theorem b2J (d:a0k) (h1:d.safe.length<281474976710656) (h2:d.wait.length<281474976710656) (h3:∀s∈d.safe,s.length<281474976710656) (h4:∀s∈d.wait,s.text.length<281474976710656) :
  PEv Tryz.prog 96 [Arg.enc d] (.c (.raw (.int .i64 (a1Q d)))):=by
 have hF:a1k Tryz.prog []:=trivial
 refine a0f mixed hF Tryz.func96 f7k f7l (by kernel_rfl) (by simp) (by simp) ?_
 have e0:IntKind.wrap .i64 (IntKind.wrap .i64 ((d.safe.length:Int)/4)+d.wait.length)=(d.safe.length:Int)/4+d.wait.length:=by
  rw [a0d (n:=(d.safe.length:Int)/4) (by omega) (by omega),a0d (by omega) (by omega)]
 simp [s96,e0]
 generalize hW:a8V (fun s:List UInt8=>(s.length:Int)/64) ((d.safe.length:Int)/4+d.wait.length) d.safe=W
 refine c7a (fun st=>st.s 1=.c (.pt (0,1) 0 0)/\st.H (0,1)=.arr 25 2 false [[.sl .brw false (a0a d.safe),.sl .brw false (a0a d.wait)]]/\st.s 3=.c (.raw (.int .i64 W))/\0<=W/\W<1125899906842624) ?_ ?_
 ·refine a1E (fun n st=>∃(i:Nat) (m:Int),i<=d.safe.length/\n=d.safe.length-i/\st.s 1=.c (.pt (0,1) 0 0)/\st.H (0,1)=.arr 25 2 false [[.sl .brw false (a0a d.safe),.sl .brw false (a0a d.wait)]]/\
   st.s 3=.c (.raw (.int .i64 m))/\st.s 4=.c (.raw (.int .i64 i))/\0<=m/\m<1125899906842624/\a8V (fun s:List UInt8=>(s.length:Int)/64) m (d.safe.drop i)=W)
   d.safe.length ⟨0,(d.safe.length:Int)/4+d.wait.length,by simp [hW];omega⟩ ?_
  rintro n st ⟨i,m,hi,rfl,g1,gH,g3,g4,hm0,hm1,hw⟩
  by_cases hlt:i<d.safe.length
  ·by_cases hm:m<1048576
   ·have hl:=h3 d.safe[i] (List.getElem_mem hlt)
    have e1:IntKind.wrap .i64 (m+IntKind.wrap .i64 ((d.safe[i].length:Int)/64))=m+(d.safe[i].length:Int)/64:=by
     rw [a0d (n:=(d.safe[i].length:Int)/64) (by omega) (by omega),a0d (by omega) (by omega)]
    have e2:IntKind.wrap .i64 ((i:Int)+1)=((i+1:Nat):Int):=by rw [a0d]<;>omega
    simp [b2v,b5I,g1,gH,g3,g4,hlt,hm,e1,e2]
    refine ⟨_,?_,i+1,?_,rfl,rfl,?_,?_,?_⟩
    ·omega
    ·omega
    ·omega
    ·omega
    ·rw [<-hw,a7y _ _ _ _ hlt hm]
   ·rw [a7z _ _ _ hm] at hw
    subst hw
    simp [b2v,b5I,g1,gH,g3,g4,hlt,hm]
    omega
  ·have:d.safe.drop i=[]:=List.drop_eq_nil_of_le (by omega)
   rw [this,a8V] at hw
   subst hw
   simp [b2v,b5I,g1,gH,g3,g4,hlt]
   omega
 ·rintro st ⟨g1,gH,g3,hW0,hW1⟩
  simp [b2v,b5I,g1,gH,g3]
  have hV:a1Q d=a8V (fun s:a4M=>(s.text.length:Int)/16) W d.wait:=by rw [<-hW];rfl
  refine a1E (fun n st=>∃(i:Nat) (m:Int),i<=d.wait.length/\n=d.wait.length-i/\st.s 1=.c (.pt (0,1) 0 0)/\st.H (0,1)=.arr 25 2 false [[.sl .brw false (a0a d.safe),.sl .brw false (a0a d.wait)]]/\
   st.s 3=.c (.raw (.int .i64 m))/\st.s 5=.c (.raw (.int .i64 i))/\0<=m/\m<2251799813685248/\a8V (fun s:a4M=>(s.text.length:Int)/16) m (d.wait.drop i)=a1Q d)
   d.wait.length ⟨0,W,by simp [hV,g1,gH,g3];omega⟩ ?_
  rintro n st ⟨i,m,hi,rfl,g1,gH,g3,g4,hm0,hm1,hw⟩
  by_cases hlt:i<d.wait.length
  ·by_cases hm:m<1048576
   ·have hl:=h4 d.wait[i] (List.getElem_mem hlt)
    have e1:IntKind.wrap .i64 (m+IntKind.wrap .i64 ((d.wait[i].text.length:Int)/16))=m+(d.wait[i].text.length:Int)/16:=by
     rw [a0d (n:=(d.wait[i].text.length:Int)/16) (by omega) (by omega),a0d (by omega) (by omega)]
    have e2:IntKind.wrap .i64 ((i:Int)+1)=((i+1:Nat):Int):=by rw [a0d]<;>omega
    simp [b2v,b5I,g1,gH,g3,g4,hlt,hm,e1,e2]
    refine ⟨_,?_,i+1,?_,rfl,rfl,?_,?_,?_⟩
    ·omega
    ·omega
    ·omega
    ·omega
    ·rw [<-hw,a7y _ _ _ _ hlt hm]
   ·rw [a7z _ _ _ hm] at hw
    subst hw
    simp [b2v,b5I,g1,gH,g3,g4,hlt,hm]
  ·have:d.wait.drop i=[]:=List.drop_eq_nil_of_le (by omega)
   rw [this,a8V] at hw
   subst hw
   simp [b2v,b5I,g1,gH,g3,g4,hlt]
open Go Go.Proofs
theorem c1s (l:List (List UInt8)) (hl:l.length<1000000):PEv Tryz.prog 86 [.c (.sl .brw false (a0a l))] (.c (.nw 9 1 (a0a l))):=by
 have hF:a1k Tryz.prog []:=trivial
 refine a0f mixed hF Tryz.func86 f7e f7f (by kernel_rfl) (by simp) (by simp) ?_
 simp [s86]
 omega
theorem c1t (l:List a4M) (hl:l.length<1000000):PEv Tryz.prog 139 [.c (.sl .brw false (a0a l))] (.c (.nw 125 2 (a0a l))):=by
 have hF:a1k Tryz.prog []:=trivial
 refine a0f mixed hF Tryz.func139 e6U e6V (by kernel_rfl) (by simp) (by simp) ?_
 simp [e6T]
 omega
def c35:List AV->Option (Prop×AV):=t1 (fun l=>l.length<1000000) fun l:List (List UInt8)=>.c (.nw 9 1 (a0a l))
@[simp] theorem f2U {l:List AV}:c35 l=(t1 (fun l=>l.length<1000000) fun l:List (List UInt8)=>.c (.nw 9 1 (a0a l))) l:=(rfl)
def b7J:List AV->Option (Prop×AV):=t1 (fun l=>l.length<1000000) fun l:List a4M=>.c (.nw 125 2 (a0a l))
@[simp] theorem e3q {l:List AV}:b7J l=(t1 (fun l=>l.length<1000000) fun l:List a4M=>.c (.nw 125 2 (a0a l))) l:=(rfl)
def F3:CT:=(86,.pu c35)::(139,.pu b7J)::F2
theorem d7h:a1k Tryz.prog F3:=⟨a0n fun l h=>c1s l h,
 a0n fun l h=>c1t l h,d0Q⟩
@[simp] theorem e3r:a0c F3 86=some (.pu c35):=(rfl)
@[simp] theorem d7i:a0c F3 139=some (.pu b7J):=(rfl)
@[simp] theorem f2V {n:Nat} (h:(n==86||n==139)=false):a0c F3 n=a0c F2 n:=by
 simp only [Bool.or_eq_false_iff,beq_eq_false_iff_ne,ne_eq] at h
 simp [F3,a0c,h]
theorem b2K (d:a0k) (h1:d.safe.length<1000000) (h2:d.wait.length<1000000):PEv Tryz.prog 84 [Arg.enc d] (.g (a0y d)):=by
 refine a0f mixed d7h Tryz.func84 f7a f7b (by kernel_rfl) (by simp [a0y]) (by simp) ?_
 simp [s84,h1,h2,a0y]
open Go Go.Proofs
def idxOf {α:Type} (p:α->Bool):Nat->List α->Int
 |_,[]=>-1
 |i,x::r=>if p x=true then i else idxOf p (i+1) r
theorem b0R (g:FuncId) (caps:List AC) (p:List UInt8->Bool) (l:List (List UInt8)) (hl:l.length<1000000) (b0G:∀c∈caps,c2k c) (b9H:a4B a0s (caps.map .c)=some (caps.map .c))
  (hp:∀s∈l,PEv Tryz.prog g (.c (.str s)::caps.map .c) (.c (.raw (.bool (p s))))) :
  PEv Tryz.prog 173 [.c (.sl .brw false (a0a l)),.c (.fn g caps)] (.c (.raw (.int .i64 (idxOf p 0 l)))):=by
 have hF:a1k Tryz.prog []:=trivial
 refine a0f mixed hF Tryz.func173 e6X e6Y (by kernel_rfl) (by simp) (by simpa using b0G) ?_
 simp [e6W]
 refine a1E (fun n st=>∃i:Nat,i<=l.length/\n=l.length-i/\st.s 0=.c (.sl .brw false (a0a l))/\st.s 1=.c (.fn g caps)/\st.s 7=.c (.raw (.int .i64 l.length))/\st.s 8=.c (.raw (.int .i64 i))/\st.H=a0s/\
  idxOf p i (l.drop i)=idxOf p 0 l) l.length ⟨0,by simp⟩ ?_
 rintro n st ⟨i,hi,rfl,h0,h1,h7,h8,hH,hx⟩
 by_cases hlt:i<l.length
 ·have hw:IntKind.wrap .i64 ((i:Int)+1)=((i+1:Nat):Int):=by rw [a0d]<;>omega
  have hev:=hp l[i] (List.getElem_mem hlt)
  simp [b90,h0,h1,h7,h8,hH,hlt]
  refine a0R hev ?_ (by simp) (by simp) ?_
  ·simp [hH,b9H]
  ·rw [List.drop_eq_getElem_cons hlt,idxOf] at hx
   simp [b90,h0,h1,h7,h8,hH,hlt,hw]
   refine ⟨fun e=>by rw [if_pos e] at hx;exact hx,fun e=>⟨_,?_,i+1,?_,rfl,rfl,?_⟩⟩
   ·omega
   ·omega
   ·rw [if_neg (by simp [e])] at hx;exact hx
 ·simp [b90,h0,h1,h7,h8,hH,hlt]
  rw [<-hx,List.drop_eq_nil_of_le (by omega)]
  rfl
theorem b0S (g:FuncId) (caps:List AC) (p:a4M->Bool) (l:List a4M) (hl:l.length<1000000) (b0G:∀c∈caps,c2k c) (b9H:a4B a0s (caps.map .c)=some (caps.map .c))
  (hp:∀s∈l,PEv Tryz.prog g (.g [.raw (.int .i64 s.at_),.str s.text]::caps.map .c) (.c (.raw (.bool (p s))))) :
  PEv Tryz.prog 174 [.c (.sl .brw false (a0a l)),.c (.fn g caps)] (.c (.raw (.int .i64 (idxOf p 0 l)))):=by
 have hF:a1k Tryz.prog []:=trivial
 refine a0f mixed hF Tryz.func174 e60 e61 (by kernel_rfl) (by simp) (by simpa using b0G) ?_
 simp [e6Z]
 refine a1E (fun n st=>∃i:Nat,i<=l.length/\n=l.length-i/\st.s 0=.c (.sl .brw false (a0a l))/\st.s 1=.c (.fn g caps)/\st.s 7=.c (.raw (.int .i64 l.length))/\st.s 8=.c (.raw (.int .i64 i))/\st.H=a0s/\
  idxOf p i (l.drop i)=idxOf p 0 l) l.length ⟨0,by simp⟩ ?_
 rintro n st ⟨i,hi,rfl,h0,h1,h7,h8,hH,hx⟩
 by_cases hlt:i<l.length
 ·have hw:IntKind.wrap .i64 ((i:Int)+1)=((i+1:Nat):Int):=by rw [a0d]<;>omega
  have hev:=hp l[i] (List.getElem_mem hlt)
  simp [b91,h0,h1,h7,h8,hH,hlt]
  refine a0R hev ?_ (by simp) (by simp) ?_
  ·simp [hH,b9H]
  ·rw [List.drop_eq_getElem_cons hlt,idxOf] at hx
   simp [b91,h0,h1,h7,h8,hH,hlt,hw]
   refine ⟨fun e=>by rw [if_pos e] at hx;exact hx,fun e=>⟨_,?_,i+1,?_,rfl,rfl,?_⟩⟩
   ·omega
   ·omega
   ·rw [if_neg (by simp [e])] at hx;exact hx
 ·simp [b91,h0,h1,h7,h8,hH,hlt]
  rw [<-hx,List.drop_eq_nil_of_le (by omega)]
  rfl
theorem a3T {α:Type} (p:α->Bool):∀(l:List α) (i:Nat),(0<=idxOf p i l)↔l.any p=true
 |[],i=>by simp [idxOf]
 |x::r,i=>by
  rw [idxOf,List.any_cons]
  by_cases h:p x=true
  ·simp [h]
  ·rw [if_neg h,a3T p r (i+1)]
   simp [h]
open Go Go.Proofs
theorem d7j (e:a0F):PEv Tryz.prog 219 [Arg.enc e] (.g [.raw (.int .i64 e.site),.raw (.int .i64 e.seq)]):=by
 refine a0f mixed (F:=[]) trivial Tryz.func219 e8T e8U (by kernel_rfl) (by simp) (by simp) ?_
 simp [e8S]
def b2L:List AV->Option (Prop×AV):=t1 (fun _=>True) fun e:a0F=>.g [.raw (.int .i64 e.site),.raw (.int .i64 e.seq)]
@[simp] theorem d7k {l:List AV}:b2L l=(t1 (fun _=>True) fun e:a0F=>.g [.raw (.int .i64 e.site),.raw (.int .i64 e.seq)]) l:=(rfl)
def FV0:CT:=(219,.pu b2L)::[]
theorem c0i:a1k Tryz.prog FV0:=⟨a0n fun e _=>d7j e,trivial⟩
@[simp] theorem d2O:a0c FV0 219=some (.pu b2L):=(rfl)
@[simp] theorem e3s {n:Nat} (h:(n==219)=false):a0c FV0 n=a0c ([]:CT) n:=by
 simp only [Bool.or_eq_false_iff,beq_eq_false_iff_ne,ne_eq] at h
 simp [FV0,a0c,h]
@[simp] def ckH (sz ah:List (List Int×Int)) (all:Int):List HO:=[.var (0,1) 192 [.mr (0,2),.mr (0,3),.raw (.int .i64 all)],.map (0,2) 2 (mI sz),.map (0,3) 0 (mI ah)]
def wrB (sz:List (List Int×Int)) (e:a0F):Bool:=decide (e=⟨0,0,0⟩)||decide (e.i<(lk sz [e.site,e.seq]).getD 0)
theorem b1r (sz ah:List (List Int×Int)) (all:Int) (e:a0F):VC Tryz.prog 195 [.c (.pt (0,1) 0 0),.g (Enc.row e)] (ckH sz ah all) (.c (.raw (.bool (wrB sz e)))) (ckH sz ah all):=by
 refine a50 mixed c0i Tryz.func195 e8N e8O (by kernel_rfl) (by simp) (a1p ?_)
 obtain ⟨a,b,c⟩:=e
 by_cases h:(a0F.mk a b c)=⟨0,0,0⟩
 ·cases h
  simp [e24,wrB]
 ·simp [e24,wrB,h]
  rintro rfl rfl rfl
  exact (h rfl).elim
@[simp] def vkH (sz ah:List (List Int×Int)) (all:Int):List HO:=.var (0,0) 188 [.pt (0,1) 0 0]::ckH sz ah all
theorem c7n (sz ah:List (List Int×Int)) (all:Int) (e:a0F):VC Tryz.prog 197 [.g (Enc.row e),.c (.pt (0,0) 0 0)] (vkH sz ah all) (.c (.raw (.bool (!wrB sz e)))) (vkH sz ah all):=by
 refine a50 mixed c0i Tryz.func197 e8Q e8R (by kernel_rfl) (by simp) (a1p ?_)
 simp [e8P]
 refine a4N (b1r sz ah all e) ?_
 simp
theorem c36 (sz ah:List (List Int×Int)) (all:Int) (l:List a0F) (hl:l.length<4611686018427387904):VC Tryz.prog 220 [.c (.sl .old false (a0a l)),.c (.fn 197 [.pt (0,0) 0 0])] (vkH sz ah all) (.c (.raw (.int .i64 (idxOf (fun e=>!wrB sz e) 0 l)))) (vkH sz ah all):=by
 refine a50 mixed c0i Tryz.func220 f2a f2b (by kernel_rfl) (by simp) (a1p ?_)
 simp [f1Z]
 refine vl (fun i:Nat=>i<=l.length/\idxOf (fun e=>!wrB sz e) i (l.drop i)=idxOf (fun e=>!wrB sz e) 0 l)
  (fun i=>mkS [(0,.c (.sl .old false (a0a l))),(1,.c (.fn 197 [.pt (0,0) 0 0])),(7,.c (.raw (.int .i64 l.length))),(8,.c (.raw (.int .i64 i)))] (vkH sz ah all)) (fun i=>l.length-i) 0 (by simp) (a0b rfl ?_) ?_
 ·simp
 rintro i ⟨hi,hx⟩ J hJ
 by_cases hlt:i<l.length
 ·have hw:IntKind.wrap .i64 ((i:Int)+1)=((i+1:Nat):Int):=by rw [a0d]<;>omega
  rw [List.drop_eq_getElem_cons hlt,idxOf] at hx
  simp [c0f,hlt]
  refine a4N (c7n sz ah all l[i]) ?_
  simp [c0f,hw]
  refine ⟨fun e=>by rw [<-hx,if_pos (by simp [e])],fun e=>hJ (i+1) ⟨by omega,by rw [<-hx,if_neg (by simp [e])]⟩ (by omega) _ (a0b rfl ?_)⟩
  simp
 ·simp [c0f,hlt]
  rw [<-hx,List.drop_eq_nil_of_le (by omega)]
  rfl
theorem c37 (sz ah:List (List Int×Int)) (all:Int) (l:List a0F) (hl:l.length<4611686018427387904):VC Tryz.prog 196 [.c (.sl .old false (a0a l)),.c (.fn 197 [.pt (0,0) 0 0])] (vkH sz ah all) (.c (.raw (.bool (l.any fun e=>!wrB sz e)))) (vkH sz ah all):=by
 refine a50 mixed c0i Tryz.func196 f1h f1i (by kernel_rfl) (by simp) (a1p ?_)
 simp [f1g]
 refine a4N (c36 sz ah all l hl) ?_
 simp
 rw [Bool.eq_iff_iff,decide_eq_true_iff,a3T]
open Go
def a1d:Nat->Nat->List UInt8
 |0,n=>[UInt8.ofNat n]
 |k+1,n=>if n<128 then [UInt8.ofNat n] else UInt8.ofNat (n%128+128)::a1d k (n/128)
def a0h (n:Nat):List UInt8:=a1d 9 n
def a3D:Nat->Nat->Nat->List UInt8->Option (Nat×List UInt8)
 |0,_,_,_=>none
 |_+1,_,_,[]=>none
 |k+1,m,acc,b::s=>
  if 128<=b.toNat then a3D k (m*128) (acc+(b.toNat%128)*m) s
  else if 268435456<acc+(b.toNat%128)*m\/(1<m/\b.toNat=0) then none else some (acc+(b.toNat%128)*m,s)
def takeN (s:List UInt8):Option (Nat×List UInt8):=a3D 5 1 0 s
def a1i (s:List UInt8):Nat×List UInt8×Int:=match takeN s with|some (n,r)=>(n,r,0)|none=>(0,[],7)
def a0Q (s:List UInt8):List UInt8×List UInt8×Int:=
 match takeN s with
 |some (n,r)=>if n<=r.length then (r.take n,r.drop n,0) else ([],[],7)
 |none=>([],[],7)
def ofF:Nat->List UInt8->Nat
 |h,[]=>h
 |h,b::s=>ofF ((h*263+b.toNat+7)%4294967291) s
def ofN (s:List UInt8):Nat:=ofF 1 s
def a2H (h:Nat):List UInt8:=[UInt8.ofNat (h/16777216),UInt8.ofNat (h/65536),UInt8.ofNat (h/256),UInt8.ofNat h]
def a1e (s:List UInt8):List UInt8:=if 700<s.length then [] else a0h s.length++a2H (ofN (a0h s.length++s))++s
def a2Y (s:List UInt8):Option (List UInt8×List UInt8):=
 match takeN s with
 |some (n,r)=>if 700<n\/r.length<n+4 then none else
  if r.take 4=a2H (ofN (s.take (s.length-r.length)++(r.take (4+n)).drop 4)) then some ((r.take (4+n)).drop 4,r.drop (4+n)) else none
 |none=>none
instance f9V:Enc UInt8 where
 w:=1
 row b:=[.raw (.int .u8 b.toNat)]
 dec|[.raw (.int .u8 n)]=>if 0<=n/\n<256 then some (UInt8.ofNat n.toNat) else none|_=>none
 a36 a:=by
  have:=a.toNat_lt
  simp
  omega
 a3O {r a} h:=by
  split at h
  ·split at h
   ·rename_i n hn
    cases h
    simp
    omega
   ·cases h
  ·cases h
 len _:=rfl
 old a c hc:=by simp at hc;subst hc;exact .raw _
 ret a c hc:=by simp at hc;subst hc;exact .raw _
@[simp] theorem f5B (b:UInt8):Enc.row b=[AC.raw (.int .u8 b.toNat)]:=rfl
@[simp] theorem g02:Enc.w UInt8=1:=rfl
theorem a8W:∀(l:List UInt8) (v:Int),a3e (a0a l++[[.raw (.int .u8 v)]])=some (l++[UInt8.ofNat v.toNat])
 |[],v=>rfl
 |b::l,v=>by
  show ((a3e (a0a l++[[.raw (.int .u8 v)]])).map fun x=>UInt8.ofNat ((b.toNat:Int)).toNat::x)=_
  rw [a8W l v]
  simp
theorem a6U (l:List UInt8) (v:Int) (h0:0<=v) (h1:v<256):a0a l++[[.raw (.int .u8 v)]]=a0a (l++[UInt8.ofNat v.toNat]):=by
 rw [<-a4h]
 congr 1
 simp
 omega
theorem b1s (v:Int) (h0:0<=v) (h1:v<256):[[AC.raw (.int .u8 v)]]=a0a [UInt8.ofNat v.toNat]:=by
 have:=a6U [] v h0 h1
 simpa using this
attribute [simp] a8W
theorem a7A {n:Int} (h1:0<=n) (h2:n<=255):IntKind.wrap .u8 n=n:=by
 simp [IntKind.wrap,IntKind.bits,IntKind.signed]
 omega
theorem b55 {n:Int} (h1:0<=n):IntKind.wrap .u8 n=n%256:=by
 simp [IntKind.wrap,IntKind.bits,IntKind.signed]
theorem b1t {n:Int}:IntKind.wrap .u32 n=n%4294967296:=by
 simp [IntKind.wrap,IntKind.bits,IntKind.signed]
theorem a2I {n:Int}:IntKind.wrap .u64 n=n%18446744073709551616:=by
 simp [IntKind.wrap,IntKind.bits,IntKind.signed]
open Go Go.Proofs
theorem c7o (n:Int):PEv Tryz.prog 229 [.c (.raw (.int .i64 n))] (.c (.raw (.bool (decide (0<=n/\n<=268435456))))):=by
 refine a0f mixed (F:=[]) trivial Tryz.func229 f2p f2q (by kernel_rfl) (by simp) (by simp) ?_
 by_cases h1:0<=n
 ·by_cases h2:n<=268435456
  ·simp [d7b,h1,h2]
  ·simp [d7b,h1,h2]
 ·simp [d7b,h1]
theorem a5s {k n:Nat} (h:128<=n):a1d (k+1) n=UInt8.ofNat (n%128+128)::a1d k (n/128):=by
 rw [a1d,if_neg (by omega)]
theorem a5t {k n:Nat} (h:n<128):a1d k n=[UInt8.ofNat n]:=by
 cases k with
 |zero=>rfl
 |succ k=>rw [a1d,if_pos h]
theorem a6V (n:Nat) (hn:n<9223372036854775808):PEv Tryz.prog 192 [.c (.raw (.int .i64 n))] (.c (.str (a0h n))):=by
 refine a0f mixed (F:=[]) trivial Tryz.func192 f09 f1a (by kernel_rfl) (by simp) (by simp) ?_
 simp [f08]
 refine a1E (fun q st=>∃(k m:Nat) (L:List UInt8) (c:AC),q=k/\k<=9/\m<128^k/\L++a1d k m=a0h n/\st.s 0=.c (.raw (.int .i64 m))/\st.s 3=.c c/\a9h st.H 5 1 0 c L/\L.length+k<=9/\a0E st.H st.T) 9
  ⟨9,n,[],.raw (.slice none 0 0),rfl,by omega,by omega,rfl,by simp,by simp,a9h.nil,by simp,by simp;exact a1n.mono (by omega)⟩ ?_
 rintro q st ⟨k,m,L,c,hq,hk,hm,hL,k0,k3,hc,hl,hf⟩
 have hfu:∀k d,st.T<=k->st.H (k,d)=.a0g:=hf
 have hm9:m<9223372036854775808:=Nat.lt_of_lt_of_le hm (Nat.le_trans (Nat.pow_le_pow_right (by omega) hk) (by decide))
 by_cases hlt:128<=m
 ·have hlt':(128:Int)<=m:=by omega
  cases k with
  |zero=>simp at hm;omega
  |succ k=>
   have c1:(m:Int).tmod 128=((m%128:Nat):Int):=by rw [Int.tmod_eq_emod_of_nonneg (by omega)];omega
   have c2:(m:Int).tdiv 128=((m/128:Nat):Int):=by rw [Int.tdiv_eq_ediv_of_nonneg (by omega)];omega
   obtain ⟨r,hr,hr2⟩:∃r:Nat,m%128=r/\r<128:=⟨m%128,rfl,by omega⟩
   obtain ⟨p,hp⟩:∃p:Nat,m/128=p:=⟨m/128,rfl⟩
   rw [hr] at c1
   rw [hp] at c2
   have e1:IntKind.wrap .i64 ((r:Int)+128)=(r:Int)+128:=by rw [a0d]<;>omega
   have e2:IntKind.wrap .u8 ((r:Int)+128)=(r:Int)+128:=a7A (by omega) (by omega)
   have e4:((r:Int)+128).toNat=r+128:=by omega
   have e3:IntKind.wrap .i64 (p:Int)=p:=by rw [a0d]<;>omega
   have hm2:p<128^k:=by rw [Nat.pow_succ] at hm;omega
   have hL2:(L++[UInt8.ofNat (r+128)])++a1d k p=a0h n:=by rw [<-hL,a5s hlt,hr,hp];simp
   rcases hc with ⟨rfl,rfl⟩|⟨id,rfl,b0H,hid⟩
   ·simp (maxDischargeDepth:=8) [b54,k0,k3,hlt',hfu,c1,c2,e1,e2,e3,Nat.le_add_right_of_le]
    refine ⟨k,by omega,by omega,p,hm2,[UInt8.ofNat (r+128)],by simpa using hL2,rfl,a9h.so rfl (Nat.zero_le _) ?_,(by have:=hl;simp at this ⊢;omega),?_⟩
    ·simp [b1s ((r:Int)+128) (by omega) (by omega),e4]
    ·repeat' (first|exact hf.mono (by first|omega|(simp<;>omega))|(refine a0E.set' ?_ (by first|omega|(simp<;>omega))))
   ·obtain ⟨f1,f2,f3⟩:=hf.arr hid
    simp (maxDischargeDepth:=8) [b54,k0,k3,hlt',hfu,c1,c2,e1,e2,e3,f1,f2,hid,Nat.le_add_right_of_le]
    refine ⟨⟨by omega,by omega⟩,k,by omega,by omega,p,hm2,L++[UInt8.ofNat (r+128)],hL2,rfl,a9h.so (by simp) (Nat.zero_le _) ?_,by simp;omega,?_⟩
    ·simp [a6U L ((r:Int)+128) (by omega) (by omega),e4]
    ·repeat' (first|exact hf.mono (by first|omega|(simp<;>omega))|(refine a0E.set' ?_ (by first|omega|(simp<;>omega))))
 ·have hlt':¬(128:Int)<=m:=by omega
  have e2:IntKind.wrap .u8 (m:Int)=m:=a7A (by omega) (by omega)
  rw [a5t (by omega)] at hL
  rcases hc with ⟨rfl,rfl⟩|⟨id,rfl,b0H,hid⟩
  ·simp (maxDischargeDepth:=8) [b54,k0,k3,hlt',hfu,e2,Nat.le_add_right_of_le]
   simpa using hL
  ·obtain ⟨f1,f2,f3⟩:=hf.arr hid
   simp (maxDischargeDepth:=8) [b54,k0,k3,hlt',hfu,e2,f1,f2,hid,List.take_of_length_le,hL,Nat.le_add_right_of_le]
   omega
def b2M:List AV->Option (Prop×AV):=t1 (fun _=>True) fun n:Int=>.c (.raw (.bool (decide (0<=n/\n<=268435456))))
@[simp] theorem d7l {l:List AV}:b2M l=(t1 (fun _=>True) fun n:Int=>.c (.raw (.bool (decide (0<=n/\n<=268435456))))) l:=(rfl)
def b2N:List AV->Option (Prop×AV):=t1 (fun n=>0<=n/\n<9223372036854775808) fun n:Int=>.c (.str (a0h n.toNat))
@[simp] theorem d7m {l:List AV}:b2N l=(t1 (fun n=>0<=n/\n<9223372036854775808) fun n:Int=>.c (.str (a0h n.toNat))) l:=(rfl)
def FN0:CT:=(229,.pu b2M)::(192,.pu b2N)::[]
theorem c8S:a1k Tryz.prog FN0:=⟨a0n fun n _=>c7o n,
 a0n fun n h=>by have:=a6V n.toNat (by omega);rwa [Int.toNat_of_nonneg h.1] at this,trivial⟩
@[simp] theorem d2P:a0c FN0 229=some (.pu b2M):=(rfl)
@[simp] theorem d2Q:a0c FN0 192=some (.pu b2N):=(rfl)
@[simp] theorem e3t {n:Nat} (h:(n==229||n==192)=false):a0c FN0 n=a0c ([]:CT) n:=by
 simp only [Bool.or_eq_false_iff,beq_eq_false_iff_ne,ne_eq] at h
 simp [FN0,a0c,h]
theorem c0j (l:List UInt8) (i:Nat) (h:i<l.length):bts l (i:Int)=(l[i].toNat:Int):=by simp [bts,List.getD,h]
theorem c8T (b:UInt8):d5J .u8 (b.toNat:Int) 127=((b.toNat%128:Nat):Int):=by
 have hb:=b.toNat_lt
 have h1:((BitVec.ofInt 8 (b.toNat:Int)) &&&(BitVec.ofInt 8 127)).toNat=b.toNat%128:=by
  rw [BitVec.toNat_and]
  have e1:(BitVec.ofInt 8 (b.toNat:Int)).toNat=b.toNat:=by simp
  have e2:(BitVec.ofInt 8 127).toNat=2^7-1:=by decide
  rw [e1,e2,Nat.and_two_pow_sub_one_eq_mod]
 show IntKind.wrap .u8 (((BitVec.ofInt 8 (b.toNat:Int)) &&&(BitVec.ofInt 8 127)).toNat:Int)=_
 rw [h1]
 exact a7A (by omega) (by omega)
theorem c38 {acc x i:Nat} (ha:acc<128^i) (hi:i<=4) (hx:x<128):ior .i64 (acc:Int) ((x*128^i:Nat):Int)=((acc+x*128^i:Nat):Int):=by
 have hp:128^i<=128^4:=Nat.pow_le_pow_right (by omega) hi
 have h4:(128:Nat)^4=268435456:=by decide
 have hxi:x*128^i<=127*268435456:=Nat.mul_le_mul (by omega) (by omega)
 have e1:(BitVec.ofInt 64 (acc:Int)).toNat=acc:=by simp;omega
 have e2:(BitVec.ofInt 64 ((x*128^i:Nat):Int)).toNat=x*128^i:=by
  generalize x*128^i=y at hxi
  simp;omega
 have h1:((BitVec.ofInt 64 (acc:Int)) |||(BitVec.ofInt 64 ((x*128^i:Nat):Int))).toNat=acc+x*128^i:=by
  rw [BitVec.toNat_or,e1,e2]
  have h7:(128:Nat)^i=2^(7*i):=by rw [show (128:Nat)=2^7 from rfl,<-Nat.pow_mul]
  rw [h7] at ha ⊢
  rw [Nat.mul_comm x,Nat.or_comm,<-Nat.two_pow_add_eq_or_of_lt ha,Nat.add_comm]
 show IntKind.wrap .i64 (((BitVec.ofInt 64 (acc:Int)) |||(BitVec.ofInt 64 ((x*128^i:Nat):Int))).toNat:Int)=_
 rw [h1]
 exact a0d (by omega) (by omega)
theorem take_at {k m acc:Nat} {s:List UInt8} {i:Nat} (h:i<s.length):a3D (k+1) m acc (s.drop i) =
  if 128<=s[i].toNat then a3D k (m*128) (acc+(s[i].toNat%128)*m) (s.drop (i+1))
  else if 268435456<acc+(s[i].toNat%128)*m\/(1<m/\s[i].toNat=0) then none else some (acc+(s[i].toNat%128)*m,s.drop (i+1)):=by
 rw [List.drop_eq_getElem_cons h,a3D]
def a3F (s:List UInt8):AV:=.t [(false,[.raw (.int .i64 (a1i s).1)]),(false,[.str (a1i s).2.1]),(false,[.raw (.int .i64 (a1i s).2.2)])]
theorem a2J {s r:List UInt8} {n:Nat} (h:some (n,r)=takeN s):a3F s=.t [(false,[.raw (.int .i64 n)]),(false,[.str r]),(false,[.raw (.int .i64 0)])]:=by simp [a3F,a1i,<-h]
theorem a4q {s:List UInt8} (h:none=takeN s):a3F s=.t [(false,[.raw (.int .i64 0)]),(false,[.str []]),(false,[.raw (.int .i64 7)])]:=by simp [a3F,a1i,<-h]
theorem a8f (s:List UInt8) (hs:s.length<4611686018427387904):PEv Tryz.prog 221 [.c (.str s)] (a3F s):=by
 refine a0f mixed c8S Tryz.func221 f2d f2e (by kernel_rfl) (by simp [a3F]) (by simp) ?_
 have hmin:(if (5:Int)<s.length then (5:Int) else s.length)=((min s.length 5:Nat):Int):=by split<;>omega
 simp [f2c,hmin]
 refine a1E (fun q st=>∃(i acc:Nat),i<=min s.length 5/\q=5-i/\acc<128^i/\st.s 0=.c (.str s)/\st.s 2=.c (.raw (.int .i64 acc))/\st.s 8=.c (.raw (.int .i64 (min s.length 5:Nat)))/\st.s 9=.c (.raw (.int .i64 i))/\
   a3D (5-i) (128^i) acc (s.drop i)=takeN s/\a0E st.H st.T) 5 ⟨0,0,by omega,rfl,by simp,by simp,by simp,by simp,by simp,rfl,by simp;exact a1n.mono (by omega)⟩ ?_
 rintro q st ⟨i,acc,hi,rfl,hacc,k0,k2,k8,k9,hT,hf⟩
 have hfu:∀k d,st.T<=k->st.H (k,d)=.a0g:=hf
 by_cases hlt:i<min s.length 5
 ·have hlt2:i<s.length:=by omega
  have hlt':((i:Int)<(min s.length 5:Nat)):=by omega
  have hk:5-i=(4-i)+1:=by omega
  rw [hk,take_at hlt2] at hT
  have hb:=s[i].toNat_lt
  obtain ⟨x,hx,hx2⟩:∃x:Nat,s[i].toNat%128=x/\x<128:=⟨_,rfl,by omega⟩
  have c1:=c0j s i hlt2
  have c2:=c8T s[i]
  rw [hx] at c2 hT
  have c3:IntKind.wrap .i64 (x:Int)=x:=by rw [a0d]<;>omega
  have c4:IntKind.wrap .i64 (7*(i:Int))=7*(i:Int):=by rw [a0d]<;>omega
  have h7:(128:Nat)^i=2^(7*i):=by rw [show (128:Nat)=2^7 from rfl,<-Nat.pow_mul]
  have c2j:min (7*(i:Int)).toNat (IntKind.bits .i64)=7*i:=by
   have:IntKind.bits .i64=64:=rfl
   omega
  have hp:128^i<=128^4:=Nat.pow_le_pow_right (by omega) (by omega)
  have h4:(128:Nat)^4=268435456:=by decide
  have hxi:x*128^i<=127*268435456:=Nat.mul_le_mul (by omega) (by omega)
  have c5:=c38 hacc (i:=i) (by omega) hx2
  have c6:IntKind.wrap .i64 ((x:Int)*2^(7*i))=((x*128^i:Nat):Int):=by
   rw [h7]
   have:((x:Int)*2^(7*i))=((x*2^(7*i):Nat):Int):=by push_cast;rfl
   rw [this,<-h7]
   exact a0d (by omega) (by omega)
  have e2:IntKind.wrap .i64 ((i:Int)+1)=(i:Int)+1:=by rw [a0d]<;>omega
  obtain ⟨y,hy⟩:∃y,x*128^i=y:=⟨_,rfl⟩
  rw [hy] at c5 c6 hT hxi
  obtain ⟨z,hz⟩:∃z,acc+y=z:=⟨_,rfl⟩
  rw [hz] at c5 hT
  simp [c3Z,k0,k2,k8,k9,hlt',hlt2,hfu,c1,c2,c3,c4,c2j,c5,c6,e2]
  have hp1:0<i->1<128^i:=fun h=>Nat.one_lt_pow (by omega) (by omega)
  refine ⟨by omega,fun hge=>?_,fun hl3=>?_⟩
  ·rw [if_pos (by omega)] at hT
   refine ⟨5-(i+1),by omega,i+1,by omega,rfl,z,?_,rfl,rfl,?_,hf.mono (by omega)⟩
   ·rw [Nat.pow_succ,<-hz,<-hy]
    have:x*128^i<=127*128^i:=Nat.mul_le_mul_right _ (by omega)
    omega
   ·rw [show 5-(i+1)=4-i by omega,Nat.pow_succ]
    exact hT
  ·rw [if_neg (by omega)] at hT
   refine ⟨fun h1=>⟨fun h2=>⟨fun h3=>?_,fun h3=>⟨by omega,?_⟩⟩,fun h2=>⟨by omega,?_⟩⟩,fun h1=>?_⟩
   ·rw [if_pos (.inr ⟨hp1 h2,h3⟩)] at hT
    rw [a4q hT]
    simp
   ·rw [if_neg (by omega)] at hT
    rw [a2J hT]
    simp
   ·subst h2
    rw [if_neg (by simp;omega)] at hT
    rw [a2J hT]
    simp
   ·rw [if_pos (.inl (by omega))] at hT
    rw [a4q hT]
    simp
 ·have hlt':¬((i:Int)<(min s.length 5:Nat)):=by omega
  have hi2:i=min s.length 5:=by omega
  have hn:none=takeN s:=by
   rw [<-hT]
   by_cases h5:s.length<5
   ·rw [List.drop_eq_nil_of_le (by omega),show 5-i=(4-i)+1 by omega,a3D]
   ·rw [show 5-i=0 by omega,a3D]
  simp [c3Z,k0,k2,k8,k9,hlt']
  rw [a4q hn]
  simp
def a2t (s:List UInt8):AV:=.t [(false,[.str (a0Q s).1]),(false,[.str (a0Q s).2.1]),(false,[.raw (.int .i64 (a0Q s).2.2)])]
def b2O:List AV->Option (Prop×AV):=t1 (fun s=>s.length<4611686018427387904) fun s:List UInt8=>a3F s
@[simp] theorem d7n {l:List AV}:b2O l=(t1 (fun s=>s.length<4611686018427387904) fun s:List UInt8=>a3F s) l:=(rfl)
def FN1:CT:=(221,.pu b2O)::FN0
theorem c39:a1k Tryz.prog FN1:=⟨a0n fun s h=>a8f s h,c8S⟩
@[simp] theorem d2R:a0c FN1 221=some (.pu b2O):=(rfl)
@[simp] theorem e3u {n:Nat} (h:(n==221)=false):a0c FN1 n=a0c FN0 n:=by
 simp only [Bool.or_eq_false_iff,beq_eq_false_iff_ne,ne_eq] at h
 simp [FN1,a0c,h]
theorem a16 {s r:List UInt8} {n:Nat} (h:takeN s=some (n,r)):n<=268435456/\r.length<s.length:=by
 have go:∀(k m acc:Nat) (s r:List UInt8) (n:Nat),a3D k m acc s=some (n,r)->n<=268435456/\r.length<s.length:=by
  intro k
  induction k with
  |zero=>intro m acc s r n h;cases h
  |succ k ih=>
   intro m acc s r n h
   cases s with
   |nil=>cases h
   |cons b s=>
    rw [a3D] at h
    split at h
    ·have:=ih _ _ _ _ _ h
     simp;omega
    ·split at h
     ·cases h
     ·cases h
      simp;omega
 exact go _ _ _ _ _ _ h
theorem a6J (s:List UInt8) (hs:s.length<4611686018427387904):PEv Tryz.prog 240 [.c (.str s)] (a2t s):=by
 refine a0f mixed c39 Tryz.func240 f2K f2L (by kernel_rfl) (by simp [a2t]) (by simp) ?_
 cases hn:takeN s with
 |none=>
  simp [d7e,hs,a4q hn.symm]
  simp [a2t,a0Q,hn]
 |some q=>
  obtain ⟨n,r⟩:=q
  obtain ⟨h1,h2⟩:=a16 hn
  by_cases hl:n<=r.length
  ·simp [d7e,hs,a2J hn.symm,hl]
   simp [a2t,a0Q,hn,hl]
  ·simp [d7e,hs,a2J hn.symm,hl]
   simp [a2t,a0Q,hn,hl]
theorem b1u (s:List UInt8) (hs:s.length<140737488355328):PEv Tryz.prog 199 [.c (.str s)] (.c (.str (a0h s.length++s))):=by
 refine a0f mixed c39 Tryz.func199 f1n f1o (by kernel_rfl) (by simp) (by simp) ?_
 have h9:∀(k n:Nat),(a1d k n).length<=k+1:=by
  intro k
  induction k with
  |zero=>intro n;simp [a1d]
  |succ k ih=>
   intro n
   rw [a1d]
   split
   ·simp
   ·have:=ih (n/128);simp;omega
 have:=h9 9 s.length
 simp [f1m,show s.length<9223372036854775808 by omega]
 unfold a0h
 omega
open Go Go.Proofs Go.Shelf
def lays105_ren:Go.Shelf.Ren:=⟨fun|105=>138|212=>137|99=>179|165=>180|166=>181|170=>182|169=>183|263=>177|264=>178|206=>206|240=>207|241=>208|276=>223|277=>224|n=>n,fun|9=>9|3=>3|4=>4|20=>20|0=>0|46=>168|109=>169|5=>5|72=>210|76=>214|51=>201|146=>202|53=>204|148=>205|70=>208|37=>65|75=>213|127=>233|164=>247|80=>70|n=>n,fun  |n=>n⟩
theorem lays105:Lays.n105 Tryz.prog lays105_ren where
 mixed:=by kernel_rfl
 f99:=Tryz.func179.trans (congrArg some (by kernel_rfl))
 f105:=Tryz.func138.trans (congrArg some (by kernel_rfl))
 f165:=Tryz.func180.trans (congrArg some (by kernel_rfl))
 f166:=Tryz.func181.trans (congrArg some (by kernel_rfl))
 f169:=Tryz.func183.trans (congrArg some (by kernel_rfl))
 f170:=Tryz.func182.trans (congrArg some (by kernel_rfl))
 f206:=Tryz.func206.trans (congrArg some (by kernel_rfl))
 f212:=Tryz.func137.trans (congrArg some (by kernel_rfl))
 f240:=Tryz.func207.trans (congrArg some (by kernel_rfl))
 f241:=Tryz.func208.trans (congrArg some (by kernel_rfl))
 f263:=Tryz.func177.trans (congrArg some (by kernel_rfl))
 f264:=Tryz.func178.trans (congrArg some (by kernel_rfl))
 f276:=Tryz.func223.trans (congrArg some (by kernel_rfl))
 f277:=Tryz.func224.trans (congrArg some (by kernel_rfl))
 t0:=Tryz.underlying0
 a0:=Tryz.isAgg0
 z0:=Tryz.sizeOf0
 v0:=Tryz.zeroValue0
 t3:=Tryz.underlying3
 a3:=Tryz.isAgg3
 z3:=Tryz.sizeOf3
 v3:=Tryz.zeroValue3
 t4:=Tryz.underlying4
 a4:=Tryz.isAgg4
 z4:=Tryz.sizeOf4
 v4:=Tryz.zeroValue4
 t5:=Tryz.underlying5
 a5:=Tryz.isAgg5
 z5:=Tryz.sizeOf5
 v5:=Tryz.zeroValue5
 t9:=Tryz.underlying9
 a9:=Tryz.isAgg9
 z9:=Tryz.sizeOf9
 v9:=Tryz.zeroValue9
 t20:=Tryz.underlying20
 a20:=Tryz.isAgg20
 z20:=Tryz.sizeOf20
 v20:=Tryz.zeroValue20
 t37:=Tryz.underlying65
 a37:=Tryz.isAgg65
 z37:=Tryz.sizeOf65
 v37:=Tryz.zeroValue65
 t46:=Tryz.underlying168
 a46:=Tryz.isAgg168
 z46:=Tryz.sizeOf168
 v46:=Tryz.zeroValue168
 t51:=Tryz.underlying201
 a51:=Tryz.isAgg201
 z51:=Tryz.sizeOf201
 v51:=Tryz.zeroValue201
 t53:=Tryz.underlying204
 a53:=Tryz.isAgg204
 z53:=Tryz.sizeOf204
 v53:=Tryz.zeroValue204
 t70:=Tryz.underlying208
 a70:=Tryz.isAgg208
 z70:=Tryz.sizeOf208
 v70:=Tryz.zeroValue208
 t72:=Tryz.underlying210
 a72:=Tryz.isAgg210
 z72:=Tryz.sizeOf210
 v72:=Tryz.zeroValue210
 t75:=Tryz.underlying213
 a75:=Tryz.isAgg213
 z75:=Tryz.sizeOf213
 v75:=Tryz.zeroValue213
 t76:=Tryz.underlying214
 a76:=Tryz.isAgg214
 z76:=Tryz.sizeOf214
 v76:=Tryz.zeroValue214
 t109:=Tryz.underlying169
 a109:=Tryz.isAgg169
 z109:=Tryz.sizeOf169
 v109:=Tryz.zeroValue169
 t127:=Tryz.underlying233
 a127:=Tryz.isAgg233
 z127:=Tryz.sizeOf233
 v127:=Tryz.zeroValue233
 t146:=Tryz.underlying202
 a146:=Tryz.isAgg202
 z146:=Tryz.sizeOf202
 v146:=Tryz.zeroValue202
 t148:=Tryz.underlying205
 a148:=Tryz.isAgg205
 z148:=Tryz.sizeOf205
 v148:=Tryz.zeroValue205
 t164:=Tryz.underlying247
 a164:=Tryz.isAgg247
 z164:=Tryz.sizeOf247
 v164:=Tryz.zeroValue247
theorem b2P:Builder.Extra Tryz.prog lays105_ren where
 sizeBuilder:=by kernel_rfl
 liesBuilder:=by kernel_rfl
 t5:=Tryz.underlying5
 a5:=Tryz.isAgg5
 z5:=Tryz.sizeOf5
 v5:=Tryz.zeroValue5
 infoByte:=by kernel_rfl
 cellsByte:=by kernel_rfl
 sizeByte:=by kernel_rfl
 neB5:=by decide
open Go Go.Proofs Go.RowKit
def a2d (l:List Int):List UInt8:=l.flatMap fun n=>a0h n.toNat
theorem b2Q {f:FuncId} {args:List AV} {b:List UInt8} (hp:PEv Tryz.prog f args (.c (.str b))) {w:World} (hI:Inv Tryz.prog w) {vs:Array Value} (hs:vs.size=args.length)
  (hr:∀(k:Nat) x,args[k]?=some x->a3u w (Fr (Ctx.of w hI fun _ _=>True) a0s a0G) a0s a0G x (vs.getD k undef)) :
  Calls Tryz.prog f vs w fun e w'=>e=.returned (.string ⟨b.toArray⟩)/\RowKit.Below w.heap.size w w':=by
 refine (hp.2 w hI (fun _ _=>True) vs hs hr (fun k=>(0,k)) (fun i j h=>by simpa using h)).mono ?_
 rintro e w' ⟨v,rfl,ρ,hH,hR⟩
 have hv:=a14 (a0D hR)
 subst hv
 exact ⟨rfl,hH.below⟩
theorem b7K (n:Int) (h0:0<=n) (h1:n<9223372036854775808) {w:World} (hI:Inv Tryz.prog w) :
  Calls Tryz.prog 192 #[.int .i64 n] w fun e w'=>e=.returned (.string ⟨(a0h n.toNat).toArray⟩)/\RowKit.Below w.heap.size w w':=by
 have:=a6V n.toNat (by omega)
 rw [Int.toNat_of_nonneg h0] at this
 refine b2Q this hI rfl fun k y hk=>by
  match k,hk with
  |0,hk=>
   simp at hk
   subst hk
   exact .c _ _ (.raw _)
theorem a0B (n:Nat):(a0h n).length<=10:=by
 have h9:∀(k n:Nat),(a1d k n).length<=k+1:=by
  intro k
  induction k with
  |zero=>intro n;simp [a1d]
  |succ k ih=>
   intro n
   rw [a1d]
   split
   ·simp
   ·have:=ih (n/128);simp;omega
 exact h9 9 n
theorem a2K (l:List Int):(a2d l).length<=10*l.length:=by
 induction l with
 |nil=>simp [a2d]
 |cons x l ih=>
  have:=a0B x.toNat
  simp [a2d] at ih ⊢
  omega
theorem b1v {T e:TypeId} {B b:Nat} {p:Value} {bs:List Value} {W W':World} (h:Lib.BuilderAtF T e B b p bs W) (hb:Below W.heap.size W W'):Lib.BuilderAtF T e B b p bs W':=by
 have hlt:b<W.heap.size:=by
  obtain ⟨_,v,hv,_⟩:=h
  exact (Array.getElem?_eq_some_iff.1 hv).1
 obtain ⟨h1,v,hv,hown,hne⟩:=h
 refine ⟨h1,v,by rw [hb.block b hlt];exact hv,?_,hne⟩
 refine hown.kept (row:=none) ⟨hb.os,hb.tape,hb.output,hb.size,fun k hk _=>hb.block k hk⟩ (Classical.em _)
theorem b7L {T e:TypeId} {B b:Nat} {bs:List Value} {W W':World} (h:Lib.IsBuilderF T e B b bs W) (hb:Below W.heap.size W W'):Lib.IsBuilderF T e B b bs W':=
 h.elim (fun x=>.inl (b1v x hb)) (fun x=>.inr (b1v x hb))
theorem a52 (l:List Int) (hl:l.length<1000000) (h0:∀n∈l,0<=n/\n<9223372036854775808) (w:World) (hI:Inv Tryz.prog w) (v:Value) (a:Option Addr) (c:Nat) (hv:v=.slice a l.length c)
  (ha:∀(i:Nat) (hi:i<l.length),∃b o:Nat,a=some ⟨b,o,none⟩/\b<w.heap.size/\w.cell? ⟨b,o+i,none⟩=some (.int .i64 l[i])) :
  Calls Tryz.prog 167 #[v] w fun e w'=>e=.returned (.string ⟨(a2d l).toArray⟩)/\RowKit.Below w.heap.size w w':=by
 subst hv
 go_enter Tryz.func167,Tryz.ntmps167
 go_wp2
 go_loopw [8] (fun i wr=>∃k:Nat,k<=l.length/\i=.int .i64 k/\Lib.IsBuilderF 210 5 w.heap.size w.heap.size (Lib.byteCells (a2d (l.take k))) wr/\Below w.heap.size w wr) (fun i _=>l.length-(Go.RowKit.intOf i).toNat)
 case atStart=>
  exact ⟨0,Nat.zero_le _,rfl,Lib.IsBuilderF.of (Lib.fresh_isBuilder 210 5 w),(Below.refl _ w).alloc (Nat.le_refl _) _⟩
 case round=>
  obtain ⟨k,hk,rfl,hB,hbw⟩:=hrel
  by_cases hlt:k<l.length
  ·obtain ⟨b,o,rfl,hb,hc⟩:=ha k hlt
   have hc':wr.cell? ⟨b,o+k,none⟩=some (.int .i64 l[k]):=by
    rw [hbw.cell (p:=⟨b,o+k,none⟩) hb];exact hc
   have hm:l[k]∈l:=List.getElem_mem hlt
   obtain ⟨hn0,hn1⟩:=h0 _ hm
   go_wp2_with (go_at_call 192;refine (b7K l[k] hn0 hn1 (hI.keep hbw)).mono ?_)
   rintro e W1 ⟨rfl,b1⟩
   have hlen:=a2K (l.take k)
   rw [List.length_take] at hlen
   have g05:=a0B l[k].toNat
   have hsz:wr.heap.size<=W1.heap.size:=b1.size
   have hsz0:w.heap.size<=wr.heap.size:=hbw.size
   go_wp2_with (go_at_call 181;refine (Any.Builder_WriteString_f {lays105 with} b2P w.heap.size w.heap.size _ ⟨(a0h l[k].toNat).toArray⟩ W1 (b7L hB b1) (by rw [Lib.byteCells_length];show _+(a0h l[k].toNat).length<=_;omega) (by omega)).mono ?_)
   rintro e W2 ⟨rfl,h2,b2⟩
   go_wp2
   go_roundw
   case rel=>
    refine ⟨_,_,_,_,_,_,_,_,_,?_,rfl⟩
    refine ⟨k+1,by omega,by go_num,?_,(hbw.trans (b1.mono hsz0)).trans b2⟩
    have:a2d (l.take (k+1))=a2d (l.take k)++a0h l[k].toNat:=by
     rw [<-List.take_append_getElem hlt,a2d,List.flatMap_append]
     simp [a2d]
    rw [this,Lib.byteCells_append]
    exact Or.inr h2
   case measure=>
    simp [Go.RowKit.intOf]
    omega
  ·have hke:k=l.length:=by omega
   subst hke
   rw [List.take_length] at hB
   have hsz0:w.heap.size<=wr.heap.size:=hbw.size
   go_wp2_with (go_at_call 183;refine (Any.Builder_String_any_f {lays105 with} b2P w.heap.size w.heap.size _ wr hB hsz0).mono ?_)
   rintro e W1 ⟨rfl,_,b1⟩
   go_wp2
   go_ret
   exact ⟨rfl,hbw.trans b1⟩
theorem b1w (l:List Int) (hl:l.length<1000000) (h0:∀n∈l,0<=n/\n<9223372036854775808):PEv Tryz.prog 167 [Arg.enc l] (.c (.str (a2d l))):=by
 refine b7B (by kernel_rfl) (by simp) fun w hI F vs hs hr=>?_
 have h1:=a0D (hr 0 _ rfl)
 generalize hv:vs.getD 0 undef=v at h1
 rw [vs1 hs hv]
 generalize hx:a0a l=xs at h1
 cases h1 with
 |a08 _ _ _ hn=>
  cases l with
  |cons=>cases hx
  |nil=>
   rcases hn with rfl|⟨a,rfl⟩
   ·exact a52 [] hl h0 w hI _ none 0 rfl (fun i hi=>by simp at hi)
   ·exact a52 [] hl h0 w hI _ (some a) 0 rfl (fun i hi=>by simp at hi)
 |sl _ _ _ b o cap sz us hb hF hcap hcl hrow hcell hone hrel=>
  subst hx
  have hlen:(a0a l).length=l.length:=by simp [a0a]
  refine a52 l hl h0 w hI _ (some ⟨b,o,none⟩) cap (by rw [hlen]) fun i hi=>⟨b,o,rfl,hb,?_⟩
  have hri:(a0a l)[i]?=some [AC.raw (.int .i64 l[i])]:=by simp [a0a,hi]
  have hsz:1=sz:=hrow i _ hri
  subst hsz
  rw [hcell i (by rw [hlen];omega)]
  have:=a0N (hrel i 0 _ _ hri rfl)
  simp at this
  rw [this]
open Go Go.Proofs
structure W32 where
 n:Nat
instance f5C:Arg W32 where
 enc w:=.c (.raw (.int .u32 w.n))
 dec|.c (.raw (.int .u32 (.ofNat n)))=>some ⟨n⟩|_=>none
 a1o {x a} h:=by split at h<;>simp_all;subst h;rfl
@[simp] theorem f2W (w:W32):Arg.enc w=.c (.raw (.int .u32 w.n)):=rfl
@[simp] theorem f2X (n:Nat):(Arg.dec (.c (.raw (.int .u32 (n:Int)))):Option W32)=some ⟨n⟩:=rfl
theorem c0k {h i:Nat} {s:List UInt8} (hi:i<s.length):ofF h (s.drop i)=ofF ((h*263+s[i].toNat+7)%4294967291) (s.drop (i+1)):=by
 rw [List.drop_eq_getElem_cons hi,ofF]
theorem c8U:∀(s:List UInt8) (h:Nat),h<4294967291->ofF h s<4294967291
 |[],h,hh=>hh
 |b::s,h,hh=>c8U s _ (Nat.mod_lt _ (by omega))
theorem c4a (s:List UInt8) (hs:s.length<4611686018427387904):PEv Tryz.prog 218 [.c (.str s)] (.c (.raw (.int .u32 (ofN s)))):=by
 refine a0f mixed (F:=[]) trivial Tryz.func218 f1X f1Y (by kernel_rfl) (by simp) (by simp) ?_
 simp [f1W]
 refine a1E (fun q st=>∃(i h:Nat),i<=s.length/\q=s.length-i/\h<4294967291/\st.s 0=.c (.str s)/\st.s 3=.c (.raw (.int .u64 h))/\st.s 6=.c (.raw (.int .i64 s.length))/\st.s 7=.c (.raw (.int .i64 i))/\ofF h (s.drop i)=ofN s) s.length
  ⟨0,1,by omega,rfl,by omega,by simp,by simp,by simp,by simp,rfl⟩ ?_
 rintro q st ⟨i,h,hi,rfl,hh,k0,k3,k6,k7,hT⟩
 by_cases hlt:i<s.length
 ·have hlt':(i:Int)<s.length:=by omega
  have hb:=s[i].toNat_lt
  rw [c0k hlt] at hT
  have c1:=c0j s i hlt
  obtain ⟨b,hb2,hb3⟩:∃b:Nat,s[i].toNat=b/\b<256:=⟨_,rfl,hb⟩
  rw [hb2] at c1 hT
  have c2:IntKind.wrap .u64 ((h:Int)*263)=(h:Int)*263:=by rw [a2I];omega
  have c3:IntKind.wrap .u64 (b:Int)=b:=by rw [a2I];omega
  have c4:IntKind.wrap .u64 ((h:Int)*263+b)=(h:Int)*263+b:=by rw [a2I];omega
  have c5:IntKind.wrap .u64 ((h:Int)*263+b+7)=(h:Int)*263+b+7:=by rw [a2I];omega
  obtain ⟨z,hz,hz2⟩:∃z:Nat,(h*263+b+7)%4294967291=z/\z<4294967291:=⟨_,rfl,Nat.mod_lt _ (by omega)⟩
  have c6:((h:Int)*263+b+7).tmod 4294967291=z:=by rw [Int.tmod_eq_emod_of_nonneg (by omega)];omega
  have e2:IntKind.wrap .i64 ((i:Int)+1)=(i:Int)+1:=by rw [a0d]<;>omega
  rw [hz] at hT
  simp [c3Y,k0,k3,k6,k7,hlt,c1,c2,c3,c4,c5,c6,e2]
  exact ⟨s.length-(i+1),by omega,i+1,by omega,rfl,z,hz2,rfl,rfl,hT⟩
 ·have:i=s.length:=by omega
  subst this
  have hr:h=ofN s:=by rw [<-hT];simp [ofF]
  have c7:IntKind.wrap .u32 (h:Int)=h:=by rw [b1t];omega
  rw [hr] at c7 k3
  simp [c3Y,k0,k3,k6,k7,c7]
theorem c7p (h:Nat) (hh:h<4294967296):PEv Tryz.prog 217 [.c (.raw (.int .u32 h))] (.c (.str (a2H h))):=by
 refine a0f mixed (F:=[]) trivial Tryz.func217 f1U f1V (by kernel_rfl) (by simp) (by simp) ?_
 have c:∀k:Nat,(h:Int).fdiv (2^k)=((h/2^k:Nat):Int):=fun k=>by
  rw [Int.fdiv_eq_ediv_of_nonneg _ (by exact Int.pow_nonneg (by omega))]
  push_cast
  rfl
 have w8:∀n:Nat,IntKind.wrap .u8 (n:Int)=((n%256:Nat):Int):=fun n=>by rw [b55 (by omega)];omega
 have u8:∀n:Nat,UInt8.ofNat (n%256)=UInt8.ofNat n:=fun n=>by
  apply UInt8.toNat_inj.1
  simp
 have b:IntKind.bits .u32=32:=rfl
 have c1:=c 24
 have c2:=c 16
 have c3:=c 8
 simp only [show (2:Nat)^24=16777216 from rfl,show (2:Nat)^16=65536 from rfl,show (2:Nat)^8=256 from rfl,show (2:Int)^24=16777216 from rfl,show (2:Int)^16=65536 from rfl,show (2:Int)^8=256 from rfl] at c1 c2 c3
 obtain ⟨x1,h1⟩:∃x,h/16777216=x:=⟨_,rfl⟩
 obtain ⟨x2,h2⟩:∃x,h/65536=x:=⟨_,rfl⟩
 obtain ⟨x3,h3⟩:∃x,h/256=x:=⟨_,rfl⟩
 rw [h1] at c1
 rw [h2] at c2
 rw [h3] at c3
 have v0:=w8 h
 have v1:=w8 x1
 have v2:=w8 x2
 have v3:=w8 x3
 obtain ⟨y0,g0⟩:∃x,h%256=x:=⟨_,rfl⟩
 obtain ⟨y1,g1⟩:∃x,x1%256=x:=⟨_,rfl⟩
 obtain ⟨y2,g2⟩:∃x,x2%256=x:=⟨_,rfl⟩
 obtain ⟨y3,g3⟩:∃x,x3%256=x:=⟨_,rfl⟩
 rw [g0] at v0
 rw [g1] at v1
 rw [g2] at v2
 rw [g3] at v3
 simp [f1T,b,c1,c2,c3,v0,v1,v2,v3]
 rw [a2H,h1,h2,h3,<-u8 x1,<-u8 x2,<-u8 x3,<-u8 h,g0,g1,g2,g3]
def c7q:List AV->Option (Prop×AV):=t1 (fun s=>s.length<4611686018427387904) fun s:List UInt8=>a2t s
def c7r:List AV->Option (Prop×AV):=t1 (fun s=>s.length<140737488355328) fun s:List UInt8=>.c (.str (a0h s.length++s))
def b2R:List AV->Option (Prop×AV):=t1 (fun s=>s.length<4611686018427387904) fun s:List UInt8=>.c (.raw (.int .u32 (ofN s)))
@[simp] theorem d7o {l:List AV}:b2R l=(t1 (fun s=>s.length<4611686018427387904) fun s:List UInt8=>.c (.raw (.int .u32 (ofN s)))) l:=(rfl)
def b2S:List AV->Option (Prop×AV):=t1 (fun w=>w.n<4294967296) fun w:W32=>.c (.str (a2H w.n))
@[simp] theorem d7p {l:List AV}:b2S l=(t1 (fun w=>w.n<4294967296) fun w:W32=>.c (.str (a2H w.n))) l:=(rfl)
def FS0:CT:=(240,.pu c7q)::(199,.pu c7r)::(218,.pu b2R)::(217,.pu b2S)::FN1
theorem c4b:a1k Tryz.prog FS0:=⟨a0n fun s h=>a6J s h,
 a0n fun s h=>b1u s h,
 a0n fun s h=>c4a s h,
 a0n fun w h=>c7p w.n h,c39⟩
@[simp] theorem d2S:a0c FS0 218=some (.pu b2R):=(rfl)
@[simp] theorem d2T:a0c FS0 217=some (.pu b2S):=(rfl)
@[simp] theorem e3v {n:Nat} (h:(n==240||n==199||n==218||n==217)=false):a0c FS0 n=a0c FN1 n:=by
 simp only [Bool.or_eq_false_iff,beq_eq_false_iff_ne,ne_eq] at h
 simp [FS0,a0c,h]
theorem c0l (s:List UInt8):ofN s<4294967296:=Nat.lt_trans (c8U s 1 (by omega)) (by omega)
theorem a6o (n:Nat):(a0h n).length<=10:=by
 have h9:∀(k n:Nat),(a1d k n).length<=k+1:=by
  intro k
  induction k with
  |zero=>intro n;simp [a1d]
  |succ k ih=>
   intro n
   rw [a1d]
   split
   ·simp
   ·have:=ih (n/128);simp;omega
 exact h9 9 n
theorem b1x (s:List UInt8) (hs:s.length<4611686018427387904):PEv Tryz.prog 194 [.c (.str s)] (.c (.str (a1e s))):=by
 refine a0f mixed c4b Tryz.func194 f1e f1f (by kernel_rfl) (by simp) (by simp) ?_
 have hb:=a6o s.length
 by_cases h7:700<s.length
 ·have h7':(700:Int)<s.length:=by omega
  simp [e3i,h7',a1e,h7]
 ·have h7':¬(700:Int)<s.length:=by omega
  have l1:(a2H (ofN (a0h s.length++s))).length=4:=rfl
  simp [e3i,h7',a1e,h7,c0l,l1,show s.length<9223372036854775808 by omega]
  omega
def a1y (s:List UInt8):AV:=match a2Y s with
 |some (t,r)=>.t [(false,[.str t]),(false,[.str r]),(false,[.raw (.bool true)])]
 |none=>.t [(false,[.str []]),(false,[.str []]),(false,[.raw (.bool false)])]
theorem a94 (s:List UInt8) (hs:s.length<4611686018427387904):PEv Tryz.prog 204 [.c (.str s)] (a1y s):=by
 refine a0f mixed c4b Tryz.func204 f1v f1w (by kernel_rfl) (by unfold a1y;split<;>simp) (by simp) ?_
 cases hn:takeN s with
 |none=>
  simp [d0P,hs,a4q hn.symm]
  simp [a1y,a2Y,hn]
 |some q=>
  obtain ⟨n,r⟩:=q
  obtain ⟨h1,h2⟩:=a16 hn
  by_cases h7:700<n
  ·have h7':(700:Int)<n:=by omega
   simp [d0P,hs,a2J hn.symm,h7']
   simp [a1y,a2Y,hn,h7]
  ·have h7':¬(700:Int)<n:=by omega
   have e1:IntKind.wrap .i64 ((r.length:Int)-4)=(r.length:Int)-4:=by rw [a0d]<;>omega
   by_cases h8:r.length<n+4
   ·have h8':(r.length:Int)-4<n:=by omega
    simp [d0P,hs,a2J hn.symm,h7',e1,h8']
    simp [a1y,a2Y,hn,h7,h8]
   ·have h8':¬(r.length:Int)-4<n:=by omega
    have e2:IntKind.wrap .i64 ((s.length:Int)-r.length)=((s.length-r.length:Nat):Int):=by rw [a0d]<;>omega
    have e3:IntKind.wrap .i64 (4+(n:Int))=((4+n:Nat):Int):=by rw [a0d]<;>omega
    obtain ⟨a,ha⟩:∃a,s.length-r.length=a:=⟨_,rfl⟩
    obtain ⟨b,hb⟩:∃b,4+n=b:=⟨_,rfl⟩
    rw [ha] at e2
    rw [hb] at e3
    have e4:a<=s.length:=by omega
    have e5:b<=r.length:=by omega
    have e6:4<=b:=by omega
    have e7:4<=r.length:=by omega
    by_cases hc:r.take 4=a2H (ofN (s.take a++(r.take b).drop 4))
    ·simp [d0P,hs,a2J hn.symm,h7',e1,h8',e2,e3,e4,e5,e6,e7,c0l,hc]
     refine ⟨by omega,by omega,by omega,by omega,?_⟩
     simp [a1y,a2Y,hn,h7,h8,ha,hb,hc]
    ·simp [d0P,hs,a2J hn.symm,h7',e1,h8',e2,e3,e4,e5,e6,e7,c0l,hc]
     refine ⟨by omega,by omega,by omega,by omega,?_⟩
     simp [a1y,a2Y,hn,h7,h8,ha,hb,hc]
def c7s:List AV->Option (Prop×AV):=t1 (fun s=>s.length<4611686018427387904) fun s:List UInt8=>.c (.str (a1e s))
def c7t:List AV->Option (Prop×AV):=t1 (fun s=>s.length<4611686018427387904) fun s:List UInt8=>a1y s
def FS1:CT:=(194,.pu c7s)::(204,.pu c7t)::FS0
theorem d7q:a1k Tryz.prog FS1:=⟨a0n fun s h=>b1x s h,
 a0n fun s h=>a94 s h,c4b⟩
@[simp] theorem e3w {n:Nat} (h:(n==194||n==204)=false):a0c FS1 n=a0c FS0 n:=by
 simp only [Bool.or_eq_false_iff,beq_eq_false_iff_ne,ne_eq] at h
 simp [FS1,a0c,h]
open Go Go.Proofs Go.Shelf
def c1u:Go.Shelf.Ren:=⟨fun|15=>231|17=>226|20=>237|n=>n,fun|0=>0|3=>3|4=>4|9=>9|21=>21|23=>197|n=>n,fun n=>n⟩
theorem lays17:LaysGw.n17 Tryz.prog c1u where
 mixed:=by kernel_rfl
 f15:=Tryz.func231.trans (congrArg some (by kernel_rfl))
 f17:=Tryz.func226.trans (congrArg some (by kernel_rfl))
 f20:=Tryz.func237.trans (congrArg some (by kernel_rfl))
 t0:=Tryz.underlying0
 a0:=Tryz.isAgg0
 z0:=Tryz.sizeOf0
 v0:=Tryz.zeroValue0
 i0:=by kernel_rfl
 t3:=Tryz.underlying3
 a3:=Tryz.isAgg3
 z3:=Tryz.sizeOf3
 v3:=Tryz.zeroValue3
 i3:=by kernel_rfl
 t4:=Tryz.underlying4
 a4:=Tryz.isAgg4
 z4:=Tryz.sizeOf4
 v4:=Tryz.zeroValue4
 i4:=by kernel_rfl
 t9:=Tryz.underlying9
 a9:=Tryz.isAgg9
 z9:=Tryz.sizeOf9
 v9:=Tryz.zeroValue9
 i9:=by kernel_rfl
 t21:=Tryz.underlying21
 a21:=Tryz.isAgg21
 z21:=Tryz.sizeOf21
 v21:=Tryz.zeroValue21
 i21:=by kernel_rfl
 t23:=Tryz.underlying197
 a23:=Tryz.isAgg197
 z23:=Tryz.sizeOf197
 v23:=Tryz.zeroValue197
 i23:=by kernel_rfl
open Go Go.Proofs Go.Shelf
def lays195_ren:Go.Shelf.Ren:=⟨fun|195=>190|n=>n,fun|9=>9|3=>3|0=>0|4=>4|n=>n,fun  |n=>n⟩
theorem lays195:Lays.n195 Tryz.prog lays195_ren where
 mixed:=by kernel_rfl
 f195:=Tryz.func190.trans (congrArg some (by kernel_rfl))
 t0:=Tryz.underlying0
 a0:=Tryz.isAgg0
 z0:=Tryz.sizeOf0
 v0:=Tryz.zeroValue0
 t3:=Tryz.underlying3
 a3:=Tryz.isAgg3
 z3:=Tryz.sizeOf3
 v3:=Tryz.zeroValue3
 t4:=Tryz.underlying4
 a4:=Tryz.isAgg4
 z4:=Tryz.sizeOf4
 v4:=Tryz.zeroValue4
 t9:=Tryz.underlying9
 a9:=Tryz.isAgg9
 z9:=Tryz.sizeOf9
 v9:=Tryz.zeroValue9
open Go Go.Proofs
def a2z (r:Int):Bool:=r==10||(decide (32<=r)&&decide (r<=1114111)&&r != 127&&r != 65533&&(decide (r<=55295)||decide (57344<=r)))
instance g03:Arg (Int×Unit) where
 enc r:=.c (.raw (.int .i32 r.1))
 dec|.c (.raw (.int .i32 n))=>some (n,())|_=>none
 a1o {x a} h:=by split at h<;>simp_all;subst h;rfl
@[simp] theorem f9W (n:Int):(Arg.dec (.c (.raw (.int .i32 n))):Option (Int×Unit))=some (n,()):=rfl
@[simp] theorem f9X (r:Int×Unit):Arg.enc r=.c (.raw (.int .i32 r.1)):=rfl
theorem c4c (r:Int):PEv Tryz.prog 232 [.c (.raw (.int .i32 r))] (.c (.raw (.bool (a2z r)))):=by
 refine a0f mixed (F:=[]) trivial Tryz.func232 f2t f2u (by kernel_rfl) (by simp) (by simp) ?_
 by_cases h0:r=10
 ·simp [c56,h0,a2z]
 ·by_cases h1:r<32
  ·simp [c56,h0,h1,a2z,show ¬32<=r by omega]
  ·by_cases h2:1114111<r
   ·simp [c56,h0,h1,h2,a2z,show ¬r<=1114111 by omega]
   ·by_cases h3:r=127
    ·subst h3;simp [c56,a2z]
    ·by_cases h4:r=65533
     ·subst h4;simp [c56,a2z]
     ·by_cases h5:r<=55295
      ·simp [c56,h0,h1,h2,h3,h4,h5,a2z]
       omega
      ·by_cases h6:57344<=r
       ·simp [c56,h0,h1,h2,h3,h4,h5,h6,a2z]
        omega
       ·simp [c56,h0,h1,h2,h3,h4,h5,h6,a2z]
def b2T:List AV->Option (Prop×AV):=t1 (fun _=>True) fun r:Int×Unit=>.c (.raw (.bool (a2z r.1)))
@[simp] theorem d7r {l:List AV}:b2T l=(t1 (fun _=>True) fun r:Int×Unit=>.c (.raw (.bool (a2z r.1)))) l:=(rfl)
def FO0:CT:=(232,.pu b2T)::FS1
theorem c4d:a1k Tryz.prog FO0:=⟨a0n fun r _=>c4c r.1,d7q⟩
@[simp] theorem d2U:a0c FO0 232=some (.pu b2T):=(rfl)
@[simp] theorem e3x {n:Nat} (h:(n==232)=false):a0c FO0 n=a0c FS1 n:=by
 simp only [Bool.or_eq_false_iff,beq_eq_false_iff_ne,ne_eq] at h
 simp [FO0,a0c,h]
theorem c1v (r:Int):PEv Tryz.prog 227 [.c (.raw (.int .i32 r))] (.c (.raw (.bool (!a2z r)))):=by
 refine a0f mixed c4d Tryz.func227 f2k f2l (by kernel_rfl) (by simp) (by simp) ?_
 simp [f2j]
def a3W (s:List UInt8):Bool:=!decide (0<=Lib.idxFunc (fun r=>!a2z (r:Int)) true ⟨s.toArray⟩)
theorem b0T {f:FuncId} {args:List AV} {b:Bool} (hp:PEv Tryz.prog f args (.c (.raw (.bool b)))) {w:World} (hI:Inv Tryz.prog w) {vs:Array Value} (hs:vs.size=args.length)
  (hr:∀(k:Nat) x,args[k]?=some x->a3u w (Fr (Ctx.of w hI fun _ _=>True) a0s a0G) a0s a0G x (vs.getD k undef)) :
  Calls Tryz.prog f vs w fun e w'=>e=.returned (.bool b)/\RowKit.Below w.heap.size w w':=by
 refine (hp.2 w hI (fun _ _=>True) vs hs hr (fun k=>(0,k)) (fun i j h=>by simpa using h)).mono ?_
 rintro e w' ⟨v,rfl,ρ,hH,hR⟩
 have hv:=a0N (a0D hR)
 subst hv
 exact ⟨rfl,hH.below⟩
theorem b0U (s:List UInt8):PEv Tryz.prog 226 [.c (.str s),.c (.fn 227 [])] (.c (.raw (.bool (decide (0<=Lib.idxFunc (fun r=>!a2z (r:Int)) true ⟨s.toArray⟩))))):=by
 refine b7C (by kernel_rfl) (by simp) fun w hI F vs hs hr=>?_
 have h0:=a14 (a0D (hr 0 _ rfl))
 have h1:vs.getD 1 undef=.func (.func 227) #[] #[]:=by
  have:=a0D (hr 1 _ rfl)
  generalize vs.getD 1 undef=u at this
  cases this with
  |fn _ _ us hl _=>
   obtain rfl:us=#[]:=by
    cases us;simp at hl;subst hl;rfl
   rfl
 rw [vs2 hs h0 h1]
 refine Any.strings_ContainsFunc_grows lays17 227 #[] (fun args w=>a8M (by kernel_rfl) args w) (fun r=>!a2z (r:Int)) ⟨s.toArray⟩ w ?_
 intro W x _ hb
 exact b0T (c1v (x:Int)) (hI.keep hb) rfl fun k y hk=>by
  match k,hk with
  |0,hk=>
   simp at hk
   subst hk
   exact .c _ _ (.raw _)
theorem b1y (s:List UInt8):PEv Tryz.prog 215 [.c (.str s)] (.c (.raw (.bool (a3W s)))):=by
 refine a0f mixed c4d Tryz.func215 f1O f1P (by kernel_rfl) (by simp) (by simp) ?_
 simp [f1N]
 refine a0R (b0U s) (by simp) (by simp) (by simp) ?_
 simp [a3W]
def a07 (s:List UInt8):Nat:=Lib.runeCount ⟨s.toArray⟩
theorem b56 (s:List UInt8) (hs:s.length<9223372036854775807):PEv Tryz.prog 190 [.c (.str s)] (.c (.raw (.int .i64 (a07 s)))):=by
 refine b7C (by kernel_rfl) (by simp) fun w hI F vs hs' hr=>?_
 have h0:=a14 (a0D (hr 0 _ rfl))
 rw [vs1 hs' h0]
 refine (Any.utf8_RuneCountInString lays195 ⟨s.toArray⟩ w (by simpa [ByteArray.size] using hs)).mono ?_
 rintro e w' ⟨he,pos,rfl⟩
 exact ⟨he,(RowKit.Below.refl _ w).alloc (Nat.le_refl _) _⟩
def c7u:List AV->Option (Prop×AV):=t1 (fun _=>True) fun s:List UInt8=>.c (.raw (.bool (a3W s)))
def b2U:List AV->Option (Prop×AV):=t1 (fun s=>s.length<9223372036854775807) fun s:List UInt8=>.c (.raw (.int .i64 (a07 s)))
@[simp] theorem d7s {l:List AV}:b2U l=(t1 (fun s=>s.length<9223372036854775807) fun s:List UInt8=>.c (.raw (.int .i64 (a07 s)))) l:=(rfl)
def FO1:CT:=(215,.pu c7u)::(190,.pu b2U)::FO0
theorem d7t:a1k Tryz.prog FO1:=⟨a0n fun s _=>b1y s,
 a0n fun s h=>b56 s h,c4d⟩
@[simp] theorem d2V:a0c FO1 190=some (.pu b2U):=(rfl)
@[simp] theorem e3y {n:Nat} (h:(n==215||n==190)=false):a0c FO1 n=a0c FO0 n:=by
 simp only [Bool.or_eq_false_iff,beq_eq_false_iff_ne,ne_eq] at h
 simp [FO1,a0c,h]
theorem b57 (n:Int):PEv Tryz.prog 155 [.c (.raw (.int .i64 n))] (.c (.raw (.bool (decide (1<=n/\n<=8))))):=by
 refine a0f mixed (F:=[]) trivial Tryz.func155 f0n f0o (by kernel_rfl) (by simp) (by simp) ?_
 by_cases h1:1<=n
 ·by_cases h2:n<=8
  ·simp [d6U,h1,h2]
  ·simp [d6U,h1,h2]
 ·simp [d6U,h1]
theorem c4e (n:Int):PEv Tryz.prog 241 [.c (.raw (.int .i64 n))] (.c (.raw (.bool false))):=by
 refine a0f mixed (F:=[]) trivial Tryz.func241 f2N f2O (by kernel_rfl) (by simp) (by simp) ?_
 simp [f2M]
def c57 (a b:Int):Int:=if a<b then -1 else if b<a then 1 else 0
def nameB (site seq:Int):Bool:=decide (1<=site/\site<=8)&&decide (1<=seq/\seq<=268435456)
def b2V:List AV->Option (Prop×AV):=t1 (fun _=>True) fun n:Int=>.c (.raw (.bool (decide (1<=n/\n<=8))))
@[simp] theorem d7u {l:List AV}:b2V l=(t1 (fun _=>True) fun n:Int=>.c (.raw (.bool (decide (1<=n/\n<=8))))) l:=(rfl)
def b2W:List AV->Option (Prop×AV):=t1 (fun _=>True) fun n:Int=>.c (.raw (.bool false))
@[simp] theorem d7v {l:List AV}:b2W l=(t1 (fun _=>True) fun n:Int=>.c (.raw (.bool false))) l:=(rfl)
def FO2:CT:=(155,.pu b2V)::(241,.pu b2W)::FO1
theorem c4f:a1k Tryz.prog FO2:=⟨a0n fun n _=>b57 n,
 a0n fun n _=>c4e n,d7t⟩
@[simp] theorem d2W:a0c FO2 155=some (.pu b2V):=(rfl)
@[simp] theorem d2X:a0c FO2 241=some (.pu b2W):=(rfl)
@[simp] theorem e3z {n:Nat} (h:(n==155||n==241)=false):a0c FO2 n=a0c FO1 n:=by
 simp only [Bool.or_eq_false_iff,beq_eq_false_iff_ne,ne_eq] at h
 simp [FO2,a0c,h]
theorem d7w (a b:Int):PEv Tryz.prog 239 [.c (.raw (.int .i64 a)),.c (.raw (.int .i64 b))] (.c (.raw (.int .i64 (c57 a b)))):=by
 refine a0f mixed c4f Tryz.func239 f2I f2J (by kernel_rfl) (by simp) (by simp) ?_
 by_cases h1:a<b
 ·simp [d7d,h1,c57]
 ·by_cases h2:b<a
  ·simp [d7d,h1,h2,c57]
  ·simp [d7d,h1,h2,c57]
theorem b58 (a b:Int):PEv Tryz.prog 157 [.c (.raw (.int .i64 a)),.c (.raw (.int .i64 b))] (.c (.raw (.bool (nameB a b)))):=by
 refine a0f mixed c4f Tryz.func157 f0s f0t (by kernel_rfl) (by simp) (by simp) ?_
 by_cases h1:1<=a/\a<=8
 ·by_cases h2:1<=b
  ·by_cases h3:b<=268435456
   ·simp [d2K,h1,h2,h3,nameB]
   ·simp [d2K,h1,h2,h3,nameB]
  ·simp [d2K,h1,h2,nameB]
 ·simp [d2K,h1,nameB]
open Go Go.Proofs
def b2X:List AV->Option (Prop×AV):=t2 (fun _ _=>True) fun a b:Int=>.c (.raw (.int .i64 (c57 a b)))
@[simp] theorem d7x {l:List AV}:b2X l=(t2 (fun _ _=>True) fun a b:Int=>.c (.raw (.int .i64 (c57 a b)))) l:=(rfl)
def b2Y:List AV->Option (Prop×AV):=t2 (fun _ _=>True) fun a b:Int=>.c (.raw (.bool (nameB a b)))
@[simp] theorem d7y {l:List AV}:b2Y l=(t2 (fun _ _=>True) fun a b:Int=>.c (.raw (.bool (nameB a b)))) l:=(rfl)
def FO3:CT:=(239,.pu b2X)::(157,.pu b2Y)::FO2
theorem c8V:a1k Tryz.prog FO3:=⟨a0P fun a b _=>d7w a b,
 a0P fun a b _=>b58 a b,c4f⟩
@[simp] theorem d2Y:a0c FO3 239=some (.pu b2X):=(rfl)
@[simp] theorem d2Z:a0c FO3 157=some (.pu b2Y):=(rfl)
@[simp] theorem e3A {n:Nat} (h:(n==239||n==157)=false):a0c FO3 n=a0c FO2 n:=by
 simp only [Bool.or_eq_false_iff,beq_eq_false_iff_ne,ne_eq] at h
 simp [FO3,a0c,h]
def orI:List Int->Int
 |[]=>0
 |x::l=>if x=0 then orI l else x
theorem c7v (l:List Int) (hl:l.length<4611686018427387904):PEv Tryz.prog 238 [.c (.sl .brw false (a0a l))] (.c (.raw (.int .i64 (orI l)))):=by
 refine a0f mixed (F:=[]) trivial Tryz.func238 f2G f2H (by kernel_rfl) (by simp) (by simp) ?_
 simp [f2F]
 refine a1E (fun n st=>∃i:Nat,i<=l.length/\n=l.length-i/\st.s 6=.c (.sl .brw false (a0a l))/\st.s 3=.c (.raw (.int .i64 0))/\st.s 2=.c (.raw (.int .i64 0))/\st.s 7=.c (.raw (.int .i64 l.length))/\st.s 8=.c (.raw (.int .i64 i))/\orI (l.drop i)=orI l) l.length ⟨0,by simp⟩ ?_
 rintro n st ⟨i,hi,rfl,h6,h3,h2,h7,h8,hp⟩
 by_cases hlt:i<l.length
 ·have hlt':(i:Int)<l.length:=by omega
  have hw:IntKind.wrap .i64 ((i:Int)+1)=((i+1:Nat):Int):=by rw [a0d]<;>omega
  have hd:l.drop i=l[i]::l.drop (i+1):=by rw [List.drop_eq_getElem_cons hlt]
  by_cases h0:l[i]=0
  ·simp [c0g,h6,h3,h2,h7,h8,hlt,hlt',hw,h0]
   refine ⟨_,?_,i+1,by omega,rfl,by simp,?_⟩
   ·omega
   ·rw [<-hp,hd,orI,if_pos h0]
  ·simp [c0g,h6,h3,h2,h7,h8,hlt,hlt',hw,h0]
   rw [<-hp,hd,orI,if_neg h0]
 ·have:i=l.length:=by omega
  subst this
  simp [c0g,h6,h3,h2,h7,h8]
  rw [<-hp]
  simp [orI]
def a2o (e:a0F):Bool:=decide (e=⟨0,0,0⟩)||(nameB e.site e.seq&&decide (0<=e.i)&&decide (e.i<12))
theorem c4g (e:a0F):PEv Tryz.prog 213 [Arg.enc e] (.c (.raw (.bool (a2o e)))):=by
 refine a0f mixed c8V Tryz.func213 f1J f1K (by kernel_rfl) (by simp) (by simp) ?_
 obtain ⟨a,b,c⟩:=e
 by_cases h0:a=0/\b=0/\c=0
 ·obtain ⟨rfl,rfl,rfl⟩:=h0
  simp [d2N,a2o]
 ·have h0':(decide (a=0)&&(decide (b=0)&&decide (c=0)))=false:=by simpa using h0
  have f3U:(decide ((⟨a,b,c⟩:a0F)=⟨0,0,0⟩))=false:=by simpa using h0
  cases h1:nameB a b
  ·simp [d2N,h0',h1,a2o,f3U]
  ·by_cases h2:0<=c
   ·simp [d2N,h0',h1,h2,a2o,f3U]
   ·simp [d2N,h0',h1,h2,a2o,f3U]
def ownB (o:OpV) (e:a0F):Bool:=decide (e.site=o.site)&&decide (e.seq=o.seq)
theorem d7z (o:OpV) (e:a0F):PEv Tryz.prog 214 [Arg.enc o,Arg.enc e] (.c (.raw (.bool (ownB o e)))):=by
 refine a0f mixed (F:=[]) trivial Tryz.func214 f1L f1M (by kernel_rfl) (by simp) (by simp [a0e]) ?_
 obtain ⟨o1,o2,o3,o4,o5,o6,o7,o8,o9⟩:=o
 obtain ⟨a,b,c⟩:=e
 by_cases h1:a=o1
 ·simp [e3j,h1,ownB,a0e]
 ·simp [e3j,h1,ownB,a0e]
def a6p (a b:a0F):Int:=orI [c57 a.site b.site,c57 a.seq b.seq,c57 a.i b.i]
def b2Z:List AV->Option (Prop×AV):=t1 (fun l=>l.length<4611686018427387904) fun l:List Int=>.c (.raw (.int .i64 (orI l)))
@[simp] theorem d7A {l:List AV}:b2Z l=(t1 (fun l=>l.length<4611686018427387904) fun l:List Int=>.c (.raw (.int .i64 (orI l)))) l:=(rfl)
def b20:List AV->Option (Prop×AV):=t1 (fun _=>True) fun e:a0F=>.c (.raw (.bool (a2o e)))
@[simp] theorem d7B {l:List AV}:b20 l=(t1 (fun _=>True) fun e:a0F=>.c (.raw (.bool (a2o e)))) l:=(rfl)
def b21:List AV->Option (Prop×AV):=t2 (fun _ _=>True) fun (o:OpV) (e:a0F)=>.c (.raw (.bool (ownB o e)))
@[simp] theorem d7C {l:List AV}:b21 l=(t2 (fun _ _=>True) fun (o:OpV) (e:a0F)=>.c (.raw (.bool (ownB o e)))) l:=(rfl)
def FO4:CT:=(238,.pu b2Z)::(213,.pu b20)::(214,.pu b21)::FO3
theorem c8W:a1k Tryz.prog FO4:=⟨a0n fun l h=>c7v l h,
 a0n fun e _=>c4g e,
 a0P fun o e _=>d7z o e,c8V⟩
@[simp] theorem d3a:a0c FO4 238=some (.pu b2Z):=(rfl)
@[simp] theorem d3b:a0c FO4 213=some (.pu b20):=(rfl)
@[simp] theorem d3c:a0c FO4 214=some (.pu b21):=(rfl)
@[simp] theorem e3B {n:Nat} (h:(n==238||n==213||n==214)=false):a0c FO4 n=a0c FO3 n:=by
 simp only [Bool.or_eq_false_iff,beq_eq_false_iff_ne,ne_eq] at h
 simp [FO4,a0c,h]
theorem c7w (a b c:Int):[[AC.raw (.int .i64 a)],[AC.raw (.int .i64 b)],[AC.raw (.int .i64 c)]]=a0a [a,b,c]:=rfl
theorem take3 (a b c:Int):List.take 3 (a0a [a,b,c])=a0a [a,b,c]:=rfl
theorem c1w (a b:a0F):PEv Tryz.prog 233 [Arg.enc a,Arg.enc b] (.c (.raw (.int .i64 (a6p a b)))):=by
 refine a0f mixed c8W Tryz.func233 f2w f2x (by kernel_rfl) (by simp) (by simp) ?_
 simp [f2v,c7w,take3,a6p]
def b22:List AV->Option (Prop×AV):=t2 (fun _ _=>True) fun (a b:a0F)=>.c (.raw (.int .i64 (a6p a b)))
@[simp] theorem d7D {l:List AV}:b22 l=(t2 (fun _ _=>True) fun (a b:a0F)=>.c (.raw (.int .i64 (a6p a b)))) l:=(rfl)
def FO5:CT:=(233,.pu b22)::FO4
theorem c4h:a1k Tryz.prog FO5:=⟨a0P fun a b _=>c1w a b,c8W⟩
@[simp] theorem d3d:a0c FO5 233=some (.pu b22):=(rfl)
@[simp] theorem e3C {n:Nat} (h:(n==233)=false):a0c FO5 n=a0c FO4 n:=by
 simp only [Bool.or_eq_false_iff,beq_eq_false_iff_ne,ne_eq] at h
 simp [FO5,a0c,h]
def a8g (a b:a0F):Bool:=decide (a6p a b<0)
theorem d0R (a b:a0F):PEv Tryz.prog 228 [Arg.enc a,Arg.enc b] (.c (.raw (.bool (a8g a b)))):=by
 refine a0f mixed c4h Tryz.func228 f2n f2o (by kernel_rfl) (by simp) (by simp) ?_
 simp [f2m,a8g]
theorem c4i (o:OpV) (h:o.text.length<9223372036854775807):PEv Tryz.prog 162 [Arg.enc o] (.c (.raw (.int .i64 (a07 o.text)))):=by
 refine a0f mixed c4h Tryz.func162 f0B f0C (by kernel_rfl) (by simp) (by simp [a0e]) ?_
 simp [f0A,a0e,h]
def a3g (o:OpV):Option a0F->List a0F->Bool
 |_,[]=>true
 |p,e::l=>if decide (e=⟨0,0,0⟩)||!a2o e||ownB o e||(match p with|none=>false|some q=>!a8g q e) then false else a3g o (some e) l
def a4r (o:OpV):Bool:=a3g o none o.gone&&decide (o.gone.length<=200)
def b23:List AV->Option (Prop×AV):=t2 (fun _ _=>True) fun (a b:a0F)=>.c (.raw (.bool (a8g a b)))
@[simp] theorem d7E {l:List AV}:b23 l=(t2 (fun _ _=>True) fun (a b:a0F)=>.c (.raw (.bool (a8g a b)))) l:=(rfl)
def b24:List AV->Option (Prop×AV):=t1 (fun o=>o.text.length<9223372036854775807) fun o:OpV=>.c (.raw (.int .i64 (a07 o.text)))
@[simp] theorem d7F {l:List AV}:b24 l=(t1 (fun o=>o.text.length<9223372036854775807) fun o:OpV=>.c (.raw (.int .i64 (a07 o.text)))) l:=(rfl)
def FO6:CT:=(228,.pu b23)::(162,.pu b24)::FO5
theorem c8X:a1k Tryz.prog FO6:=⟨a0P fun a b _=>d0R a b,
 a0n fun o h=>c4i o h,c4h⟩
@[simp] theorem d3e:a0c FO6 228=some (.pu b23):=(rfl)
@[simp] theorem d3f:a0c FO6 162=some (.pu b24):=(rfl)
@[simp] theorem e3D {n:Nat} (h:(n==228||n==162)=false):a0c FO6 n=a0c FO5 n:=by
 simp only [Bool.or_eq_false_iff,beq_eq_false_iff_ne,ne_eq] at h
 simp [FO6,a0c,h]
open Go Go.Proofs
def a4D (l:List a0F):Nat->Option a0F
 |0=>none
 |i+1=>l[i]?
theorem c7x (e:a0F):(decide (e.site=0)&&(decide (e.seq=0)&&decide (e.i=0)))=decide (e=⟨0,0,0⟩):=by
 obtain ⟨a,b,c⟩:=e
 by_cases h1:a=0<;>by_cases h2:b=0<;>by_cases h3:c=0<;>simp [h1,h2,h3]
theorem b1z (o:OpV) {i:Nat} (hi:i<o.gone.length):a3g o (a4D o.gone i) (o.gone.drop i) =
  if decide (o.gone[i]=⟨0,0,0⟩)||!a2o o.gone[i]||ownB o o.gone[i]||(match a4D o.gone i with|none=>false|some q=>!a8g q o.gone[i]) then false else a3g o (a4D o.gone (i+1)) (o.gone.drop (i+1)):=by
 rw [List.drop_eq_getElem_cons hi]
 have e:a4D o.gone (i+1)=some o.gone[i]:=by simp [a4D,hi]
 rw [e]
 cases a4D o.gone i<;>rfl
theorem d0S (o:OpV) (hl:o.gone.length<4611686018427387904):PEv Tryz.prog 216 [Arg.enc o] (.c (.raw (.bool (a4r o)))):=by
 refine a0f mixed c8X Tryz.func216 f1R f1S (by kernel_rfl) (by simp) (by simp [a0e]) ?_
 simp [f1Q,a0e]
 refine a1E (fun n st=>∃i:Nat,i<=o.gone.length/\n=o.gone.length-i/\st.s 1=.c (.pt (0,1) 0 0)/\st.s 6=.c (.sl .brw false (a0a o.gone))/\st.s 7=.c (.raw (.int .i64 o.gone.length))/\st.s 8=.c (.raw (.int .i64 i))/\st.H (0,1)=.arr 53 11 false [a0e .brw o]/\0<st.T/\a0E st.H st.T/\a3g o (a4D o.gone i) (o.gone.drop i)=a3g o none o.gone) o.gone.length ⟨0,by simp [a4D,a0e];exact a0E.set' (a1n.mono (Nat.zero_le _)) (by simp)⟩ ?_
 rintro n st ⟨i,hi,rfl,h1,h6,h7,h8,hH,hT,hf,hp⟩
 have hfu:∀k d,st.T<=k->st.H (k,d)=.a0g:=hf
 by_cases hlt:i<o.gone.length
 ·have hlt':(i:Int)<o.gone.length:=by omega
  have hw:IntKind.wrap .i64 ((i:Int)+1)=((i+1:Nat):Int):=by rw [a0d]<;>omega
  rw [b1z o hlt] at hp
  have hz:=c7x o.gone[i]
  cases z:decide (o.gone[i]=⟨0,0,0⟩)
  ·rw [z] at hz hp
   cases he:a2o o.gone[i]
   ·have hg:a4r o=false:=by simp [a4r,<-hp,he]
    simp [a8U,h1,h6,h7,h8,hH,a0e,hlt,hlt',hw,hfu,hz,he,hg]
   ·cases hw':ownB o o.gone[i]
    ·by_cases h0:i=0
     ·subst h0
      have hp':a3g o (a4D o.gone 1) (o.gone.drop 1)=a3g o none o.gone:=by rw [<-hp];simp [he,hw',a4D]
      simp [a8U,h1,h6,h7,h8,hH,a0e,hlt,hlt',hw,hfu,hz,he,hw']
      refine ⟨_,?_,1,by omega,rfl,rfl,?_,hp'⟩
      ·omega
      ·repeat' (first|exact hf.mono (by first|omega|(simp<;>omega))|(refine a0E.set' ?_ (by first|omega|(simp<;>omega))))
     ·obtain ⟨j,hj⟩:∃j,j+1=i:=⟨i-1,by omega⟩
      have hjl:j<o.gone.length:=by omega
      have hpe:a4D o.gone i=some o.gone[j]:=by subst hj;simp [a4D,hjl]
      have hs:IntKind.wrap .i64 ((i:Int)-1)=(j:Int):=by rw [a0d]<;>omega
      have hpos:0<i:=by omega
      cases hl':a8g o.gone[j] o.gone[i]
      ·have hg:a4r o=false:=by simp [a4r,<-hp,he,hpe,hl']
       simp [a8U,h1,h6,h7,h8,hH,a0e,hlt,hlt',hw,hfu,hz,he,hw',hl',hs,hjl,hpos,h0,hg]
      ·have hp':a3g o (a4D o.gone (i+1)) (o.gone.drop (i+1))=a3g o none o.gone:=by rw [<-hp];simp [he,hw',hpe,hl']
       simp [a8U,h1,h6,h7,h8,hH,a0e,hlt,hlt',hw,hfu,hz,he,hw',hl',hs,hjl,hpos,h0]
       refine ⟨_,?_,i+1,by omega,rfl,rfl,?_,hp'⟩
       ·omega
       ·repeat' (first|exact hf.mono (by first|omega|(simp<;>omega))|(refine a0E.set' ?_ (by first|omega|(simp<;>omega))))
    ·have hg:a4r o=false:=by simp [a4r,<-hp,he,hw']
     simp [a8U,h1,h6,h7,h8,hH,a0e,hlt,hlt',hw,hfu,hz,he,hw',hg]
  ·rw [z] at hz hp
   have hg:a4r o=false:=by simp [a4r,<-hp]
   simp [a8U,h1,h6,h7,h8,hH,a0e,hlt,hlt',hw,hfu,hz,hg]
 ·have:i=o.gone.length:=by omega
  subst this
  simp at hp
  simp [a8U,h1,h6,h7,h8,hH,a0e]
  have:a3g o none o.gone=true:=by rw [<-hp];cases a4D o.gone o.gone.length<;>rfl
  simp [a4r,this]
  omega
open Go Go.Proofs
def b25:List AV->Option (Prop×AV):=t1 (fun o=>o.gone.length<4611686018427387904) fun o:OpV=>.c (.raw (.bool (a4r o)))
@[simp] theorem d7G {l:List AV}:b25 l=(t1 (fun o=>o.gone.length<4611686018427387904) fun o:OpV=>.c (.raw (.bool (a4r o)))) l:=(rfl)
def b26:List AV->Option (Prop×AV):=t1 (fun _=>True) fun s:List UInt8=>.c (.raw (.bool (a3W s)))
@[simp] theorem d7H {l:List AV}:b26 l=(t1 (fun _=>True) fun s:List UInt8=>.c (.raw (.bool (a3W s)))) l:=(rfl)
def FO7:CT:=(216,.pu b25)::(215,.pu b26)::FO6
theorem c4j:a1k Tryz.prog FO7:=⟨a0n fun o h=>d0S o h,
 a0n fun s _=>b1y s,c8X⟩
@[simp] theorem d3g:a0c FO7 216=some (.pu b25):=(rfl)
@[simp] theorem d3h:a0c FO7 215=some (.pu b26):=(rfl)
@[simp] theorem e3E {n:Nat} (h:(n==216||n==215)=false):a0c FO7 n=a0c FO6 n:=by
 simp only [Bool.or_eq_false_iff,beq_eq_false_iff_ne,ne_eq] at h
 simp [FO7,a0c,h]
def okO (o:OpV):Prop:=o.text.length<4611686018427387904/\o.gone.length<4611686018427387904
def a3X (o:OpV):Bool:=
 a2o o.after&&!ownB o o.after&&!(decide (o.text=[])&&!decide (o.after=⟨0,0,0⟩))&&!(decide (o.text=[])&&decide (o.gone.length=0))&&
 a3W o.text&&decide (a07 o.text<=12)&&a4r o&&decide (o.of_=0)&&decide (o.num=0)&&decide (o.gen=0)
theorem d0T (o:OpV) (ho:okO o):PEv Tryz.prog 188 [Arg.enc o] (.c (.raw (.bool (a3X o)))):=by
 refine a0f mixed c4j Tryz.func188 f01 f02 (by kernel_rfl) (by simp) (by simp [a0e]) ?_
 have hz:=c7x o.after
 have b1:o.text.length<9223372036854775807:=by have:=ho.1;omega
 have b2:=ho.2
 have er:decide ((a07 o.text:Int)<=12)=decide (a07 o.text<=12):=by
  by_cases h:a07 o.text<=12<;>simp [h]<;>omega
 cases c1:a2o o.after
 ·simp [b47,a0e,a3X,c1]
 cases c2:ownB o o.after
 rotate_left
 ·simp [b47,a0e,a3X,c1,c2]
 cases c3:decide (o.text=[])
 rotate_left
 ·cases c4:decide (o.after=⟨0,0,0⟩)
  ·rw [c4] at hz
   simp [b47,a0e,a3X,hz,c1,c2,c3,c4]
  rw [c4] at hz
  cases c5:decide (o.gone=[])
  rotate_left
  ·simp [b47,a0e,a3X,hz,c1,c2,c3,c4,c5]
  cases c6:a3W o.text
  ·simp [b47,a0e,a3X,hz,b1,b2,c1,c2,c3,c4,c5,c6]
  cases c7:decide (a07 o.text<=12)
  ·have c7':decide ((a07 o.text:Int)<=12)=false:=by rw [er,c7]
   simp [b47,a0e,a3X,hz,b1,b2,c1,c2,c3,c4,c5,c6,c7,c7']
  have c7':decide ((a07 o.text:Int)<=12)=true:=by rw [er,c7]
  cases c8:a4r o
  ·simp [b47,a0e,a3X,hz,b1,b2,c1,c2,c3,c4,c5,c6,c7,c7',c8]
  cases c9:decide (o.of_=0)
  ·simp [b47,a0e,a3X,hz,b1,b2,c1,c2,c3,c4,c5,c6,c7,c7',c8,c9]
  cases c10:decide (o.num=0)
  ·simp [b47,a0e,a3X,hz,b1,b2,c1,c2,c3,c4,c5,c6,c7,c7',c8,c9,c10]
  ·simp [b47,a0e,a3X,hz,b1,b2,c1,c2,c3,c4,c5,c6,c7,c7',c8,c9,c10]
 ·skip
  cases c6:a3W o.text
  ·simp [b47,a0e,a3X,hz,b1,b2,c1,c2,c3,c6]
  cases c7:decide (a07 o.text<=12)
  ·have c7':decide ((a07 o.text:Int)<=12)=false:=by rw [er,c7]
   simp [b47,a0e,a3X,hz,b1,b2,c1,c2,c3,c6,c7,c7']
  have c7':decide ((a07 o.text:Int)<=12)=true:=by rw [er,c7]
  cases c8:a4r o
  ·simp [b47,a0e,a3X,hz,b1,b2,c1,c2,c3,c6,c7,c7',c8]
  cases c9:decide (o.of_=0)
  ·simp [b47,a0e,a3X,hz,b1,b2,c1,c2,c3,c6,c7,c7',c8,c9]
  cases c10:decide (o.num=0)
  ·simp [b47,a0e,a3X,hz,b1,b2,c1,c2,c3,c6,c7,c7',c8,c9,c10]
  ·simp [b47,a0e,a3X,hz,b1,b2,c1,c2,c3,c6,c7,c7',c8,c9,c10]
open Go Go.Proofs
theorem a0F.a9g {a b:a0F}:a=b↔a.site=b.site/\a.seq=b.seq/\a.i=b.i:=by
 obtain ⟨a1,a2,a3⟩:=a
 obtain ⟨b1,b2,b3⟩:=b
 simp
theorem c4k (a b:List a0F) (ha:a.length<4611686018427387904):PEv Tryz.prog 176 [Arg.enc a,Arg.enc b] (.c (.raw (.bool (decide (a=b))))):=by
 refine a0f mixed (F:=[]) trivial Tryz.func176 f0T f0U (by kernel_rfl) (by simp) (by simp) ?_
 simp [f0S]
 refine ⟨fun h e=>h (by rw [e]),fun hl=>?_⟩
 have hl:a.length=b.length:=by omega
 refine a1E (fun n st=>∃i:Nat,i<=a.length/\n=a.length-i/\st.s 0=.c (.sl .brw false (a0a a))/\st.s 1=.c (.sl .brw false (a0a b))/\st.s 12=.c (.raw (.int .i64 a.length))/\st.s 13=.c (.raw (.int .i64 i))/\a.take i=b.take i) a.length ⟨0,by simp⟩ ?_
 rintro n st ⟨i,hi,rfl,h0,h1,h12,h5,hp⟩
 by_cases hlt:i<a.length
 ·have hb:i<b.length:=by omega
  have hw:IntKind.wrap .i64 ((i:Int)+1)=((i+1:Nat):Int):=by rw [a0d]<;>omega
  simp [c3W,h0,h1,h5,h12,hlt,hb]
  refine ⟨?_,?_⟩
  ·intro hne e
   subst e
   simp at hne
  ·intro e1 e2 e3
   refine ⟨a.length-(i+1),by omega,i+1,by omega,rfl,?_,?_⟩
   ·rw [a0d (by omega) (by omega)];rfl
   ·exact a5W hp hlt hb (a0F.a9g.2 ⟨e1,e2,e3⟩)
 ·have:i=a.length:=by omega
  subst this
  simp [c3W,h0,h1,h5,h12]
  rw [List.take_length,hl,List.take_length] at hp
  exact hp
theorem b1A (a b:List a0F) (ha:a.length<4611686018427387904):PEv Tryz.prog 65 [Arg.enc a,Arg.enc b] (.c (.raw (.bool (decide (a=b))))):=by
 refine a0f mixed (F:=[]) trivial Tryz.func65 f9D f9E (by kernel_rfl) (by simp) (by simp) ?_
 simp [s65]
 refine ⟨fun h e=>h (by rw [e]),fun hl=>?_⟩
 have hl:a.length=b.length:=by omega
 refine a1E (fun n st=>∃i:Nat,i<=a.length/\n=a.length-i/\st.s 0=.c (.sl .brw false (a0a a))/\st.s 1=.c (.sl .brw false (a0a b))/\st.s 5=.c (.raw (.int .i64 i))/\a.take i=b.take i) a.length ⟨0,by simp⟩ ?_
 rintro n st ⟨i,hi,rfl,h0,h1,h5,hp⟩
 by_cases hlt:i<a.length
 ·have hb:i<b.length:=by omega
  simp [d0K,h0,h1,h5,hlt,hb]
  refine ⟨?_,?_⟩
  ·intro hne e
   subst e
   simp at hne
  ·intro e1 e2 e3
   refine ⟨a.length-(i+1),by omega,i+1,by omega,rfl,?_,?_⟩
   ·rw [a0d (by omega) (by omega)];rfl
   ·exact a5W hp hlt hb (a0F.a9g.2 ⟨e1,e2,e3⟩)
 ·have:i=a.length:=by omega
  subst this
  simp [d0K,h0,h1,h5]
  rw [List.take_length,hl,List.take_length] at hp
  exact hp
open Go Go.Proofs
def a1M (o:OpV):Bool:=
 nameB o.of_ o.num&&!(decide (o.of_=o.site)&&decide (o.num=o.seq))&&!decide (o.gen<0)&&!decide (268435456<o.gen)&&
 decide (o.after=⟨0,0,0⟩)&&decide (o.text=[])&&decide (o.gone=[])
theorem c4l (o:OpV) (ho:okO o):PEv Tryz.prog 189 [Arg.enc o] (.c (.raw (.bool (a1M o)))):=by
 refine a0f mixed c4j Tryz.func189 f03 f04 (by kernel_rfl) (by simp) (by simp [a0e]) ?_
 have hz:=c7x o.after
 cases c1:nameB o.of_ o.num
 ·simp [c0e,a0e,a1M,hz,c1]
 cases c2:decide (o.of_=o.site)
 ·cases c4:decide (o.gen<0)
  rotate_left
  ·simp [c0e,a0e,a1M,hz,c1,c2,c4]
  cases c5:decide (268435456<o.gen)
  rotate_left
  ·simp [c0e,a0e,a1M,hz,c1,c2,c4,c5]
  cases c6:decide (o.after=⟨0,0,0⟩)
  ·rw [c6] at hz
   simp [c0e,a0e,a1M,hz,c1,c2,c4,c5,c6]
  rw [c6] at hz
  cases c7:decide (o.text=[])
  ·simp [c0e,a0e,a1M,hz,c1,c2,c4,c5,c6,c7]
  ·simp [c0e,a0e,a1M,hz,c1,c2,c4,c5,c6,c7]
 cases c3:decide (o.num=o.seq)
 rotate_left
 ·simp [c0e,a0e,a1M,hz,c1,c2,c3]
 cases c4:decide (o.gen<0)
 rotate_left
 ·simp [c0e,a0e,a1M,hz,c1,c2,c3,c4]
 cases c5:decide (268435456<o.gen)
 rotate_left
 ·simp [c0e,a0e,a1M,hz,c1,c2,c3,c4,c5]
 cases c6:decide (o.after=⟨0,0,0⟩)
 ·rw [c6] at hz
  simp [c0e,a0e,a1M,hz,c1,c2,c3,c4,c5,c6]
 rw [c6] at hz
 cases c7:decide (o.text=[])
 ·simp [c0e,a0e,a1M,hz,c1,c2,c3,c4,c5,c6,c7]
 ·simp [c0e,a0e,a1M,hz,c1,c2,c3,c4,c5,c6,c7]
open Go Go.Proofs
def b27:List AV->Option (Prop×AV):=t2 (fun a _=>a.length<4611686018427387904) fun a b:List a0F=>.c (.raw (.bool (decide (a=b))))
@[simp] theorem d7I {l:List AV}:b27 l=(t2 (fun a _=>a.length<4611686018427387904) fun a b:List a0F=>.c (.raw (.bool (decide (a=b))))) l:=(rfl)
def d0U:List AV->Option (Prop×AV):=t2 (fun a _=>a.length<4611686018427387904) fun a b:List a0F=>.c (.raw (.bool (decide (a=b))))
def FQ1:CT:=(176,.pu b27)::(65,.pu d0U)::FO7
theorem c8Y:a1k Tryz.prog FQ1:=⟨a0P fun a b h=>c4k a b h,
 a0P fun a b h=>b1A a b h,c4j⟩
@[simp] theorem d3i:a0c FQ1 176=some (.pu b27):=(rfl)
@[simp] theorem e3F {n:Nat} (h:(n==176||n==65)=false):a0c FQ1 n=a0c FO7 n:=by
 simp only [Bool.or_eq_false_iff,beq_eq_false_iff_ne,ne_eq] at h
 simp [FQ1,a0c,h]
theorem c8Z (a b:a0F):(decide (a.site=b.site)&&(decide (a.seq=b.seq)&&decide (a.i=b.i)))=decide (a=b):=by
 obtain ⟨a1,a2,a3⟩:=a
 obtain ⟨b1,b2,b3⟩:=b
 by_cases h1:a1=b1<;>by_cases h2:a2=b2<;>by_cases h3:a3=b3<;>simp [h1,h2,h3]
def a2L (a b:OpV):Bool:=
 decide (a.gone=b.gone)&&decide (a.site=b.site)&&decide (a.seq=b.seq)&&decide (a.kind=b.kind)&&decide (a.after=b.after)&&decide (a.text=b.text)&&decide (a.of_=b.of_)&&decide (a.num=b.num)&&decide (a.gen=b.gen)
theorem a5u (a b:OpV):a2L a b=decide (a=b):=by
 obtain ⟨a1,a2,a3,a4,a5,a6,a7,a8,a9⟩:=a
 obtain ⟨b1,b2,b3,b4,b5,b6,b7,b8,b9⟩:=b
 rw [Bool.eq_iff_iff]
 simp [a2L]
 constructor
 ·rintro ⟨⟨⟨⟨⟨⟨⟨⟨rfl,rfl⟩,rfl⟩,rfl⟩,rfl⟩,rfl⟩,rfl⟩,rfl⟩,rfl⟩
  simp
 ·rintro ⟨rfl,rfl,rfl,rfl,rfl,rfl,rfl,rfl,rfl⟩
  simp
theorem d0V (a b:OpV) (ha:a.gone.length<4611686018427387904):PEv Tryz.prog 134 [Arg.enc a,Arg.enc b] (.c (.raw (.bool (a2L a b)))):=by
 refine a0f mixed c8Y Tryz.func134 e9S e9T (by kernel_rfl) (by simp) (by simp [a0e]) ?_
 have hz:=c8Z a.after b.after
 cases c1:decide (a.gone=b.gone)
 ·simp [c3T,a0e,a2L,hz,c1,ha]
 cases c2:decide (a.site=b.site)
 ·simp [c3T,a0e,a2L,hz,c1,c2,ha]
 cases c3:decide (a.seq=b.seq)
 ·simp [c3T,a0e,a2L,hz,c1,c2,c3,ha]
 cases c4:decide (a.kind=b.kind)
 ·simp [c3T,a0e,a2L,hz,c1,c2,c3,c4,ha]
 cases c5:decide (a.after=b.after)
 ·rw [c5] at hz
  simp [c3T,a0e,a2L,hz,c1,c2,c3,c4,c5,ha]
 rw [c5] at hz
 cases c6:decide (a.text=b.text)
 ·simp [c3T,a0e,a2L,hz,c1,c2,c3,c4,c5,c6,ha]
 cases c7:decide (a.of_=b.of_)
 ·simp [c3T,a0e,a2L,hz,c1,c2,c3,c4,c5,c6,c7,ha]
 cases c8:decide (a.num=b.num)
 ·simp [c3T,a0e,a2L,hz,c1,c2,c3,c4,c5,c6,c7,c8,ha]
 ·simp [c3T,a0e,a2L,hz,c1,c2,c3,c4,c5,c6,c7,c8,ha]
open Go Go.Proofs
def b28:List AV->Option (Prop×AV):=t1 okO fun o:OpV=>.c (.raw (.bool (a3X o)))
@[simp] theorem d7J {l:List AV}:b28 l=(t1 okO fun o:OpV=>.c (.raw (.bool (a3X o)))) l:=(rfl)
def b29:List AV->Option (Prop×AV):=t1 okO fun o:OpV=>.c (.raw (.bool (a1M o)))
@[simp] theorem d7K {l:List AV}:b29 l=(t1 okO fun o:OpV=>.c (.raw (.bool (a1M o)))) l:=(rfl)
def b3a:List AV->Option (Prop×AV):=t2 (fun a _=>a.gone.length<4611686018427387904) fun a b:OpV=>.c (.raw (.bool (a2L a b)))
@[simp] theorem d7L {l:List AV}:b3a l=(t2 (fun a _=>a.gone.length<4611686018427387904) fun a b:OpV=>.c (.raw (.bool (a2L a b)))) l:=(rfl)
def FM0:CT:=(188,.pu b28)::(189,.pu b29)::(134,.pu b3a)::FQ1
theorem c0m:a1k Tryz.prog FM0:=⟨a0n fun o h=>d0T o h,
 a0n fun o h=>c4l o h,
 a0P fun a b h=>d0V a b h,c8Y⟩
@[simp] theorem d3j:a0c FM0 188=some (.pu b28):=(rfl)
@[simp] theorem d3k:a0c FM0 189=some (.pu b29):=(rfl)
@[simp] theorem d3l:a0c FM0 134=some (.pu b3a):=(rfl)
@[simp] theorem e3G {n:Nat} (h:(n==188||n==189||n==134)=false):a0c FM0 n=a0c FQ1 n:=by
 simp only [Bool.or_eq_false_iff,beq_eq_false_iff_ne,ne_eq] at h
 simp [FM0,a0c,h]
def a0v (o:OpV):Bool:=nameB o.site o.seq&&(if o.kind=1 then a3X o else decide (o.kind=2)&&a1M o)
theorem c0n (o:OpV) (ho:okO o):PEv Tryz.prog 153 [Arg.enc o] (.c (.raw (.bool (a0v o)))):=by
 refine a0f mixed c0m Tryz.func153 f0i f0j (by kernel_rfl) (by simp) (by simp [a0e]) ?_
 cases c1:nameB o.site o.seq
 ·simp [d2J,a0e,a0v,c1,ho]
 cases c2:decide (o.kind=1)
 rotate_left
 ·have c2':=of_decide_eq_true c2
  simp [d2J,a0e,a0v,c1,c2,ho]
  exact fun h=>absurd c2' h
 cases c3:decide (o.kind=2)
 ·simp [d2J,a0e,a0v,c1,c2,c3,ho]
 ·simp [d2J,a0e,a0v,c1,c2,c3,ho]
  exact fun h=>absurd h (of_decide_eq_false c2)
def a0C:OpV:=⟨0,0,0,⟨0,0,0⟩,[],[],0,0,0⟩
theorem c1x (o:OpV) (ho:okO o):PEv Tryz.prog 191 [Arg.enc o] (.c (.raw (.bool (a2L o a0C)))):=by
 refine a0f mixed c0m Tryz.func191 f06 f07 (by kernel_rfl) (by simp) (by simp [a0e]) ?_
 have:=ho.2
 simp [f05,a0e,this,a0C]
def b3b:List AV->Option (Prop×AV):=t1 okO fun o:OpV=>.c (.raw (.bool (a0v o)))
@[simp] theorem d7M {l:List AV}:b3b l=(t1 okO fun o:OpV=>.c (.raw (.bool (a0v o)))) l:=(rfl)
def b3c:List AV->Option (Prop×AV):=t1 okO fun o:OpV=>.c (.raw (.bool (a2L o a0C)))
@[simp] theorem d7N {l:List AV}:b3c l=(t1 okO fun o:OpV=>.c (.raw (.bool (a2L o a0C)))) l:=(rfl)
def FM1:CT:=(153,.pu b3b)::(191,.pu b3c)::FM0
theorem c80:a1k Tryz.prog FM1:=⟨a0n fun o h=>c0n o h,
 a0n fun o h=>c1x o h,c0m⟩
@[simp] theorem d3m:a0c FM1 153=some (.pu b3b):=(rfl)
@[simp] theorem d3n:a0c FM1 191=some (.pu b3c):=(rfl)
@[simp] theorem e3H {n:Nat} (h:(n==153||n==191)=false):a0c FM1 n=a0c FM0 n:=by
 simp only [Bool.or_eq_false_iff,beq_eq_false_iff_ne,ne_eq] at h
 simp [FM1,a0c,h]
def a0J (e:a0i):Bool:=if e.join then decide (1<=e.a0H)&&decide (e.a0H<=268435456)&&a2L e.op a0C else decide (e.a0H=0)&&a0v e.op
theorem b59 (e:a0i) (ho:okO e.op):PEv Tryz.prog 163 [Arg.enc e] (.c (.raw (.bool (a0J e)))):=by
 refine a0f mixed c80 Tryz.func163 f0D f0E (by kernel_rfl) (by simp) (by simp [a0m,a0e]) ?_
 cases c1:e.join
 ·cases c2:decide (e.a0H=0)
  ·simp [d0O,a0m,a0e,a0J,c1,c2,ho]
  ·simp [d0O,a0m,a0e,a0J,c1,c2,ho]
 ·cases c2:decide (1<=e.a0H)
  ·simp [d0O,a0m,a0e,a0J,c1,c2,ho]
  cases c3:decide (e.a0H<=268435456)
  ·simp [d0O,a0m,a0e,a0J,c1,c2,c3,ho]
  ·simp [d0O,a0m,a0e,a0J,c1,c2,c3,ho]
theorem a8h {a b:Int} (h:nameB a b=true):1<=a/\a<=8/\1<=b/\b<=268435456:=by
 simp [nameB] at h
 omega
theorem d0W {e:a0F} (h:a2o e=true):0<=e.site/\e.site<=8/\0<=e.seq/\e.seq<=268435456/\0<=e.i/\e.i<12:=by
 simp [a2o] at h
 rcases h with rfl|⟨⟨h1,h2⟩,h3⟩
 ·simp
 ·have:=a8h h1
  omega
def okN (n:Int):Prop:=0<=n/\n<9223372036854775808
def okE (e:a0F):Prop:=okN e.site/\okN e.seq/\okN e.i
theorem c0o {e:a0F} (h:a2o e=true):okE e:=by
 have:=d0W h
 refine ⟨⟨?_,?_⟩,⟨?_,?_⟩,?_,?_⟩<;>omega
def c7y:List AV->Option (Prop×AV):=t1 (fun e=>okO e.op) fun e:a0i=>.c (.raw (.bool (a0J e)))
def b3d:List AV->Option (Prop×AV):=t1 (fun l=>l.length<1000000/\∀n∈l,okN n) fun l:List Int=>.c (.str (a2d l))
@[simp] theorem d7O {l:List AV}:b3d l=(t1 (fun l=>l.length<1000000/\∀n∈l,okN n) fun l:List Int=>.c (.str (a2d l))) l:=(rfl)
def b3e:List AV->Option (Prop×AV):=t1 (fun s=>s.length<140737488355328) fun s:List UInt8=>.c (.str (a0h s.length++s))
@[simp] theorem d7P {l:List AV}:b3e l=(t1 (fun s=>s.length<140737488355328) fun s:List UInt8=>.c (.str (a0h s.length++s))) l:=(rfl)
def FP0:CT:=(163,.pu c7y)::(167,.pu b3d)::(199,.pu b3e)::FM1
theorem c4m:a1k Tryz.prog FP0:=⟨a0n fun e h=>b59 e h,
 a0n fun l h=>b1w l h.1 h.2,
 a0n fun s h=>b1u s h,c80⟩
@[simp] theorem d3o:a0c FP0 167=some (.pu b3d):=(rfl)
@[simp] theorem d3p:a0c FP0 199=some (.pu b3e):=(rfl)
@[simp] theorem e3I {n:Nat} (h:(n==163||n==167||n==199)=false):a0c FP0 n=a0c FM1 n:=by
 simp only [Bool.or_eq_false_iff,beq_eq_false_iff_ne,ne_eq] at h
 simp [FP0,a0c,h]
def a1V (e:a0F):List UInt8:=a2d [e.site,e.seq,e.i]
theorem c7z (e:a0F) (h:okE e):PEv Tryz.prog 198 [Arg.enc e] (.c (.str (a1V e))):=by
 refine a0f mixed c4m Tryz.func198 f1k f1l (by kernel_rfl) (by simp) (by simp) ?_
 obtain ⟨h1,h2,h3⟩:=h
 simp [f1j,c7w,take3,h1,h2,h3,a1V]
open Go Go.Proofs
def b3f:List AV->Option (Prop×AV):=t1 okE fun e:a0F=>.c (.str (a1V e))
@[simp] theorem d7Q {l:List AV}:b3f l=(t1 okE fun e:a0F=>.c (.str (a1V e))) l:=(rfl)
def FP1:CT:=(198,.pu b3f)::FP0
theorem c81:a1k Tryz.prog FP1:=⟨a0n fun e h=>c7z e h,c4m⟩
@[simp] theorem d3q:a0c FP1 198=some (.pu b3f):=(rfl)
@[simp] theorem e3J {n:Nat} (h:(n==198)=false):a0c FP1 n=a0c FP0 n:=by
 simp only [Bool.or_eq_false_iff,beq_eq_false_iff_ne,ne_eq] at h
 simp [FP1,a0c,h]
structure okP (o:OpV):Prop where
 site:okN o.site
 seq:okN o.seq
 kind:okN o.kind
 of_:okN o.of_
 num:okN o.num
 gen:okN o.gen
 after:okE o.after
 gone:∀e∈o.gone,okE e
 text:o.text.length<1000000
 len:o.gone.length<1000000
def a4c (o:OpV):List UInt8:=a2d [o.site,o.seq,o.kind]
def b6a (o:OpV):List UInt8:=a1V o.after++((a0h o.text.length++o.text)++a2d [(o.gone.length:Int)])
def a05 (o:OpV):List UInt8:=if o.kind=2 then a4c o++a2d [o.of_,o.num,o.gen] else a4c o++b6a o++o.gone.flatMap a1V
theorem a5f (e:a0F):(a1V e).length<=30:=by
 have:=a2K [e.site,e.seq,e.i]
 simpa [a1V] using this
theorem d7R (a:Int):(Arg.dec (.c (.sl .brw false [[AC.raw (.int .i64 a)]])):Option (List Int))=some [a]:=a7q [a]
theorem c82 (a b c:Int):(Arg.dec (.c (.sl .brw false [[AC.raw (.int .i64 a)],[AC.raw (.int .i64 b)],[AC.raw (.int .i64 c)]])):Option (List Int))=some [a,b,c]:=a7q [a,b,c]
theorem b3g (l:List a0F):(l.flatMap a1V).length<=30*l.length:=by
 induction l with
 |nil=>simp
 |cons x l ih=>
  have:=a5f x
  simp at ih ⊢
  omega
theorem c0p (o:OpV) (h:okP o):PEv Tryz.prog 168 [Arg.enc o] (.c (.str (a05 o))):=by
 refine a0f mixed c81 Tryz.func168 f0H f0I (by kernel_rfl) (by simp) (by simp [a0e]) ?_
 have hl1:=a2K [o.site,o.seq,o.kind]
 have hl2:=a2K [o.of_,o.num,o.gen]
 have hl3:=a5f o.after
 have hl4:=a0B o.text.length
 have hl5:=a2K [(o.gone.length:Int)]
 have hl6:=h.text
 have hl7:=h.len
 simp only [List.length_cons,List.length_nil] at hl1 hl2 hl5
 have e1:=h.site;have e2:=h.seq;have e3:=h.kind;have e4:=h.of_;have e5:=h.num;have e6:=h.gen;have e7:=h.after
 have e8:okN (o.gone.length:Int):=⟨by omega,by omega⟩
 have l1:(a2d [o.site,o.seq,o.kind]).length+(a2d [o.of_,o.num,o.gen]).length<=9223372036854775807:=by omega
 have l2:o.text.length<140737488355328:=by omega
 have e9:a1V {site:=o.after.site,seq:=o.after.seq,i:=o.after.i}=a1V o.after:=rfl
 cases c:decide (o.kind=2)
 rotate_left
 ·have e10:a05 o=a4c o++a2d [o.of_,o.num,o.gen]:=by rw [a05,if_pos (of_decide_eq_true c)]
  simp [e3d,a0e,c82,e1,e2,e3,e4,e5,e6,c,l1,e10,a4c]
 ·have e10:a05 o=a4c o++b6a o++o.gone.flatMap a1V:=by rw [a05,if_neg (of_decide_eq_false c)]
  have l3:(a1V o.after).length+((a0h o.text.length).length+o.text.length)<=9223372036854775807:=by omega
  have l4:(a1V o.after).length+((a0h o.text.length).length+(o.text.length+(a2d [(o.gone.length:Int)]).length))<=9223372036854775807:=by omega
  have l5:(a2d [o.site,o.seq,o.kind]).length+((a1V o.after).length+((a0h o.text.length).length+(o.text.length+(a2d [(o.gone.length:Int)]).length)))<=9223372036854775807:=by omega
  simp [e3d,a0e,c82,d7R,e1,e2,e3,e7,e8,c,l2,l3,l4,l5,e9]
  refine ⟨by omega,?_⟩
  have lm:(a4c o++b6a o).length<=1000200:=by simp [a4c,b6a];omega
  refine a1E (fun n st=>∃i:Nat,i<=o.gone.length/\n=o.gone.length-i/\st.s 3=.c (.str (a4c o++b6a o++(o.gone.take i).flatMap a1V))/\st.s 43=.c (.sl .brw false (a0a o.gone))/\st.s 44=.c (.raw (.int .i64 o.gone.length))/\st.s 45=.c (.raw (.int .i64 i))/\a0E st.H st.T) o.gone.length ?_ ?_
  ·refine ⟨0,by omega,by omega,?_⟩
   simp [a4c,b6a]
   (repeat' (first|exact a1n.mono (Nat.zero_le _)|(refine a0E.set' ?_ (by simp))))
  rintro n st ⟨i,hi,rfl,h3,h43,h44,h45,hf⟩
  have hfu:∀k d,st.T<=k->st.H (k,d)=.a0g:=hf
  by_cases hlt:i<o.gone.length
  ·have hlt':(i:Int)<o.gone.length:=by omega
   have hw:IntKind.wrap .i64 ((i:Int)+1)=((i+1:Nat):Int):=by rw [a0d]<;>omega
   have hg:okE o.gone[i]:=h.gone _ (List.getElem_mem hlt)
   have hg':a1V {site:=o.gone[i].site,seq:=o.gone[i].seq,i:=o.gone[i].i}=a1V o.gone[i]:=rfl
   have hg2:okE {site:=o.gone[i].site,seq:=o.gone[i].seq,i:=o.gone[i].i}:=hg
   have g1:=b3g (o.gone.take i)
   rw [List.length_take] at g1
   have g2:=a5f o.gone[i]
   generalize hX:a4c o++b6a o++(o.gone.take i).flatMap a1V=X at h3
   have hXl:X.length+(a1V o.gone[i]).length<=9223372036854775807:=by rw [<-hX,List.length_append];omega
   simp [c3U,h3,h43,h44,h45,hlt,hlt',hw,hfu,hg2,hg',hXl]
   refine ⟨_,?_,i+1,by omega,rfl,?_,rfl,?_⟩
   ·omega
   ·rw [<-hX,<-List.take_append_getElem hlt,List.flatMap_append]
    simp
   ·repeat' (first|exact hf.mono (by first|omega|(simp<;>omega))|(refine a0E.set' ?_ (by first|omega|(simp<;>omega))))
  ·have:i=o.gone.length:=by omega
   subst this
   simp [c3U,h3,h43,h44,h45,e10]
open Go Go.Proofs
structure RdV where
 s:List UInt8
 bad:Bool
def a0Z (r:RdV):List AC:=[.str r.s,.raw (.bool r.bad)]
def rdG {α:Type} (C:RdV->Prop) (f:RdV->α×RdV) (out:α->AV):List AC->List AV->Option (Prop×List AC×AV):=fun row rest=>
 match row,rest with
 |[.str s,.raw (.bool b)],[]=>some (C ⟨s,b⟩,a0Z (f ⟨s,b⟩).2,out (f ⟨s,b⟩).1)
 |_,_=>none
@[simp] theorem f5D {α:Type} {C:RdV->Prop} {f:RdV->α×RdV} {out:α->AV} {s:List UInt8} {b:Bool} :
  rdG C f out [.str s,.raw (.bool b)] []=some (C ⟨s,b⟩,a0Z (f ⟨s,b⟩).2,out (f ⟨s,b⟩).1):=rfl
theorem a4P {F:CT} (hF:a1k Tryz.prog F) {e:TypeId} {f:FuncId} {fn:Func} {s:SC} {α:Type} {C:RdV->Prop} {g:RdV->α×RdV} {out:α->AV} (hf:Tryz.prog.funcs[f]?=some fn) (hs:a0q fn.body s=some (unK s,true))
  (hok:a0M a0p fn 0=true) (hn:Nat.ble 1 fn.ntmps=true) (hout:∀a,∀c∈(out a).flat,b0J c)
  (h:∀(H:Heap) (T:Nat) (id:Id) (r:RdV),H id=.arr e 2 false [a0Z r]->a0E H T->C r->
   a2S Tryz.prog F s (d6C Tryz.prog fn fun res H'=>exV H' res (out (g r).1)/\(a2u res.flat).Nodup/\(∀i∈a2u res.flat,H i=.a0g)/\a0z [id] H H'/\H' id=.arr e 2 false [a0Z (g r).2]) (a7r H T [.c (.pt id 0 0)])) :
  a5C Tryz.prog f (mh1 e 2 (rdG C g out)):=by
 have inv:∀{row rest q},rdG C g out row rest=some q->∃r:RdV,row=a0Z r/\rest=[]/\q=(C r,a0Z (g r).2,out (g r).1):=by
  intro row rest q hq
  unfold rdG at hq
  split at hq
  ·cases hq
   exact ⟨⟨_,_⟩,rfl,rfl,rfl⟩
  ·cases hq
 refine d0D mixed hF hf hs hok (fun row rest q hq=>?_) fun H T id row rest q hid hfr hq hC=>?_
 ·obtain ⟨r,rfl,rfl,rfl⟩:=inv hq
  refine ⟨hn,hout _,fun c hc id=>?_⟩
  simp [a0Z] at hc
  rcases hc with rfl|rfl<;>simp
 ·obtain ⟨r,rfl,rfl,rfl⟩:=inv hq
  exact h H T id r hid hfr hC
def rdNum (r:RdV):Int×RdV:=((a1i r.s).1,⟨(a1i r.s).2.1,r.bad||!decide ((a1i r.s).2.2=0)⟩)
def a1h (r:RdV):List UInt8×RdV:=((a0Q r.s).1,⟨(a0Q r.s).2.1,r.bad||!decide ((a0Q r.s).2.2=0)⟩)
def okR (r:RdV):Prop:=r.s.length<4611686018427387904
def b0K (n:Int):AV:=.c (.raw (.int .i64 n))
def b6Y (s:List UInt8):AV:=.c (.str s)
def b3h:List AV->Option (Prop×AV):=t1 (fun s=>s.length<4611686018427387904) fun s:List UInt8=>a3F s
@[simp] theorem d7S {l:List AV}:b3h l=(t1 (fun s=>s.length<4611686018427387904) fun s:List UInt8=>a3F s) l:=(rfl)
def b3i:List AV->Option (Prop×AV):=t1 (fun s=>s.length<4611686018427387904) fun s:List UInt8=>a2t s
@[simp] theorem d7T {l:List AV}:b3i l=(t1 (fun s=>s.length<4611686018427387904) fun s:List UInt8=>a2t s) l:=(rfl)
def FR0:CT:=(221,.pu b3h)::(240,.pu b3i)::FP1
theorem c4n:a1k Tryz.prog FR0:=⟨a0n fun s h=>a8f s h,
 a0n fun s h=>a6J s h,c81⟩
@[simp] theorem d3r:a0c FR0 221=some (.pu b3h):=(rfl)
@[simp] theorem d3s:a0c FR0 240=some (.pu b3i):=(rfl)
@[simp] theorem e3K {n:Nat} (h:(n==221||n==240)=false):a0c FR0 n=a0c FP1 n:=by
 simp only [Bool.or_eq_false_iff,beq_eq_false_iff_ne,ne_eq] at h
 simp [FR0,a0c,h]
theorem a5v {id:Id} {H:Heap} {o o':OK}:a0z [id] H (hset (hset H id o) id o'):=by
 intro i hi hn
 simp at hn
 simp [hset,hn]
theorem c7A:a5C Tryz.prog 234 (mh1 253 2 (rdG okR rdNum b0K)):=by
 refine a4P c4n Tryz.func234 f2y f2z (by kernel_rfl) (by simp [b0K]) fun H T id r hid hf hr=>?_
 obtain ⟨s,bad⟩:=r
 have hr':s.length<4611686018427387904:=hr
 have hfu:∀k d,T<=k->H (k,d)=.a0g:=hf
 cases bad
 ·simp [e3l,hid,hfu,hr',a0Z,a3F]
  refine ⟨by simp [b0K,rdNum],a5v,rfl,by simp [rdNum]⟩
 ·simp [e3l,hid,hfu,hr',a0Z,a3F]
  refine ⟨by simp [b0K,rdNum],a5v,rfl,by simp [rdNum]⟩
theorem c4o:a5C Tryz.prog 236 (mh1 253 2 (rdG okR a1h b6Y)):=by
 refine a4P c4n Tryz.func236 f2D f2E (by kernel_rfl) (by simp [b6Y]) fun H T id r hid hf hr=>?_
 obtain ⟨s,bad⟩:=r
 have hr':s.length<4611686018427387904:=hr
 have hfu:∀k d,T<=k->H (k,d)=.a0g:=hf
 cases bad
 ·simp [e3m,hid,hfu,hr',a0Z,a2t]
  refine ⟨by simp [b6Y,a1h],a5v,rfl,by simp [a1h]⟩
 ·simp [e3m,hid,hfu,hr',a0Z,a2t]
  refine ⟨by simp [b6Y,a1h],a5v,rfl,by simp [a1h]⟩
def b3j:MH:=mh1 253 2 (rdG okR rdNum b0K)
@[simp] theorem d7U {H:Heap} {l:List AV}:b3j H l=(mh1 253 2 (rdG okR rdNum b0K)) H l:=(rfl)
def b3k:MH:=mh1 253 2 (rdG okR a1h b6Y)
@[simp] theorem d7V {H:Heap} {l:List AV}:b3k H l=(mh1 253 2 (rdG okR a1h b6Y)) H l:=(rfl)
def FR1:CT:=(234,.mu b3j)::(236,.mu b3k)::FR0
theorem c83:a1k Tryz.prog FR1:=⟨c7A,
 c4o,c4n⟩
@[simp] theorem d3t:a0c FR1 234=some (.mu b3j):=(rfl)
@[simp] theorem d3u:a0c FR1 236=some (.mu b3k):=(rfl)
@[simp] theorem e3L {n:Nat} (h:(n==234||n==236)=false):a0c FR1 n=a0c FR0 n:=by
 simp only [Bool.or_eq_false_iff,beq_eq_false_iff_ne,ne_eq] at h
 simp [FR1,a0c,h]
def a1a (r:RdV):a0F×RdV:=
 let a:=rdNum r
 let b:=rdNum a.2
 let c:=rdNum b.2
 (⟨a.1,b.1,c.1⟩,c.2)
def b1B (e:a0F):AV:=.g (Enc.row e)
theorem a3A {r:RdV} (h:okR r):okR (rdNum r).2:=by
 show (a1i r.s).2.1.length<_
 have h':r.s.length<4611686018427387904:=h
 cases hn:takeN r.s with
 |none=>simp [a1i,hn]
 |some q=>
  obtain ⟨n,t⟩:=q
  have:=(a16 hn).2
  simp [a1i,hn]
  omega
theorem c4p {r:RdV} (h:okR r):okR (a1h r).2:=by
 show (a0Q r.s).2.1.length<_
 have h':r.s.length<4611686018427387904:=h
 cases hn:takeN r.s with
 |none=>simp [a0Q,hn]
 |some q=>
  obtain ⟨n,t⟩:=q
  have:=(a16 hn).2
  simp only [a0Q,hn]
  split
  ·simp;omega
  ·simp
theorem b6b {r:RdV} (h:okR r):okR (a1a r).2:=a3A (a3A (a3A h))
theorem c4q:a5C Tryz.prog 235 (mh1 253 2 (rdG okR a1a b1B)):=by
 refine a4P c83 Tryz.func235 f2B f2C (by kernel_rfl) (by simp [b1B]) fun H T id r hid hf hr=>?_
 obtain ⟨n1,n2,n3⟩:=hf.arr hid
 have hfu:∀k d,T<=k->H (k,d)=.a0g:=hf
 have c1:=a3A hr
 have c2:=a3A c1
 obtain ⟨s,bad⟩:=r
 rcases e1:rdNum ⟨s,bad⟩ with ⟨a1,s1,b1⟩
 rw [e1] at c1 c2
 simp only at c1 c2
 rcases e2:rdNum ⟨s1,b1⟩ with ⟨a2,s2,b2⟩
 rw [e2] at c2
 simp only at c2
 rcases e3:rdNum ⟨s2,b2⟩ with ⟨a3,s3,b3⟩
 have e4:a1a ⟨s,bad⟩=(⟨a1,a2,a3⟩,⟨s3,b3⟩):=by simp [a1a,e1,e2,e3]
 simp [f2A,hid,hfu,hr,c1,c2,e1,e2,e3,e4,a0Z,b0K,b1B,n1,n2]
 (repeat' (first|exact a0z.refl _ _|assumption|(refine a0z.set ?_ (by first|(right;simp;done)|(left;simp [hfu];done)|(left;exact hfu _ _ (by omega))|(left;assumption)))))
open Go Go.Proofs
def a0T:Nat->RdV->List a0F×RdV
 |0,r=>([],r)
 |n+1,r=>((a0T n r).1++[(a1a (a0T n r).2).1],(a1a (a0T n r).2).2)
def a7V (r:RdV):OpV×RdV:=
 let a:=rdNum r
 let b:=rdNum a.2
 let c:=rdNum b.2
 if c.1=2 then
  let d:=rdNum c.2
  let e:=rdNum d.2
  let f:=rdNum e.2
  (⟨a.1,b.1,c.1,⟨0,0,0⟩,[],[],d.1,e.1,f.1⟩,⟨f.2.s,f.2.bad||!a0v ⟨a.1,b.1,c.1,⟨0,0,0⟩,[],[],d.1,e.1,f.1⟩⟩)
 else
  let d:=a1a c.2
  let e:=a1h d.2
  let f:=rdNum e.2
  let g:=a0T (min f.1.toNat 200) f.2
  (⟨a.1,b.1,c.1,d.1,e.1,g.1,0,0,0⟩,⟨g.2.s,g.2.bad||decide (200<f.1)||!a0v ⟨a.1,b.1,c.1,d.1,e.1,g.1,0,0,0⟩⟩)
def a0K (c:AC) (o:OpV):List AC:=
 [.raw (.int .i64 o.site),.raw (.int .i64 o.seq),.raw (.int .i64 o.kind),.raw (.int .i64 o.after.site),.raw (.int .i64 o.after.seq),.raw (.int .i64 o.after.i),.str o.text,c,.raw (.int .i64 o.of_),.raw (.int .i64 o.num),.raw (.int .i64 o.gen)]
def b48 (o:OpV):AV:=.g (a0K (.nw 50 3 (a0a o.gone)) o)
def b3l:MH:=mh1 253 2 (rdG okR a1a b1B)
@[simp] theorem d7W {H:Heap} {l:List AV}:b3l H l=(mh1 253 2 (rdG okR a1a b1B)) H l:=(rfl)
def FR2:CT:=(235,.mu b3l)::FR1
theorem d7X:a1k Tryz.prog FR2:=⟨c4q,c83⟩
@[simp] theorem d3v:a0c FR2 235=some (.mu b3l):=(rfl)
@[simp] theorem e3M {n:Nat} (h:(n==235)=false):a0c FR2 n=a0c FR1 n:=by
 simp only [Bool.or_eq_false_iff,beq_eq_false_iff_ne,ne_eq] at h
 simp [FR2,a0c,h]
theorem a8i {r:RdV} (h:okR r):∀n,okR (a0T n r).2/\(a0T n r).1.length=n
 |0=>⟨h,rfl⟩
 |n+1=>by
  obtain ⟨h1,h2⟩:=a8i h n
  exact ⟨b6b h1,by simp [a0T,h2]⟩
theorem b3m (r:RdV):0<=(rdNum r).1/\(rdNum r).1<=268435456:=by
 simp only [rdNum,a1i]
 cases hn:takeN r.s with
 |none=>simp
 |some q=>
  obtain ⟨n,t⟩:=q
  have:=(a16 hn).1
  simp
  omega
theorem c1y {r:RdV} (h:okR r):(a1h r).1.length<4611686018427387904:=by
 show (a0Q r.s).1.length<_
 have h':r.s.length<4611686018427387904:=h
 cases hn:takeN r.s with
 |none=>simp [a0Q,hn]
 |some q=>
  obtain ⟨n,t⟩:=q
  have:=(a16 hn).2
  simp only [a0Q,hn]
  split
  ·simp;omega
  ·simp
theorem d0X:a5C Tryz.prog 230 (mh1 253 2 (rdG okR a7V b48)):=by
 refine a4P d7X Tryz.func230 f2r f2s (by kernel_rfl) (by simp [b48,a0K]) fun H T id r hid hf hr=>?_
 obtain ⟨n1,n2,n3⟩:=hf.arr hid
 have hfu:∀k d,T<=k->H (k,d)=.a0g:=hf
 have c1:=a3A hr
 have c2:=a3A c1
 have c3:=a3A c2
 obtain ⟨s,bad⟩:=r
 rcases e1:rdNum ⟨s,bad⟩ with ⟨a1,s1,b1⟩
 rw [e1] at c1 c2 c3
 simp only at c1 c2 c3
 rcases e2:rdNum ⟨s1,b1⟩ with ⟨a2,s2,b2⟩
 rw [e2] at c2 c3
 simp only at c2 c3
 rcases e3:rdNum ⟨s2,b2⟩ with ⟨a3,s3,b3⟩
 rw [e3] at c3
 simp only at c3
 cases k:decide (a3=2)
 rotate_left
 ·have k':=of_decide_eq_true k
  have c4:=a3A c3
  have c5:=a3A c4
  rcases e4:rdNum ⟨s3,b3⟩ with ⟨a4,s4,b4⟩
  rw [e4] at c4 c5
  simp only at c4 c5
  rcases e5:rdNum ⟨s4,b4⟩ with ⟨a5,s5,b5⟩
  rw [e5] at c5
  simp only at c5
  rcases e6:rdNum ⟨s5,b5⟩ with ⟨a6,s6,b6⟩
  generalize ho:(⟨a1,a2,a3,⟨0,0,0⟩,[],[],a4,a5,a6⟩:OpV)=o
  have hoo:okO o:=by subst ho;exact ⟨by simp,by simp⟩
  have e7:a7V ⟨s,bad⟩=(o,⟨s6,b6||!a0v o⟩):=by subst ho;simp [a7V,e1,e2,e3,e4,e5,e6,k']
  cases b6
  ·simp [d7c,hid,hfu,hr,c1,c2,c3,c4,c5,e1,e2,e3,e4,e5,e6,e7,a0Z,b0K,b1B,b48,n1,n2,k,ho,hoo]
   refine ⟨by subst ho;simp [a0K],?_⟩
   (repeat' (first|exact a0z.refl _ _|assumption|(refine a0z.set ?_ (by first|(right;simp;done)|(left;simp [hfu];done)|(left;exact hfu _ _ (by omega))|(left;assumption)))))
  ·simp [d7c,hid,hfu,hr,c1,c2,c3,c4,c5,e1,e2,e3,e4,e5,e6,e7,a0Z,b0K,b1B,b48,n1,n2,k,ho,hoo]
   refine ⟨by subst ho;simp [a0K],?_⟩
   (repeat' (first|exact a0z.refl _ _|assumption|(refine a0z.set ?_ (by first|(right;simp;done)|(left;simp [hfu];done)|(left;exact hfu _ _ (by omega))|(left;assumption)))))
 ·have k':¬a3=2:=of_decide_eq_false k
  have c4:=b6b c3
  have c5:=c4p c4
  have c6:=a3A c5
  have lt:=c1y c4
  rcases e4:a1a ⟨s3,b3⟩ with ⟨⟨x1,x2,x3⟩,s4,b4⟩
  rw [e4] at c4 c5 c6 lt
  simp only at c4 c5 c6 lt
  rcases e5:a1h ⟨s4,b4⟩ with ⟨tx,s5,b5⟩
  rw [e5] at c5 c6 lt
  simp only at c5 c6 lt
  obtain ⟨hn0,hn1⟩:=b3m ⟨s5,b5⟩
  rcases e6:rdNum ⟨s5,b5⟩ with ⟨n,s6,b6⟩
  rw [e6] at c6 hn0 hn1
  simp only at c6 hn0 hn1
  obtain ⟨m,hm⟩:∃m,m=min n.toNat 200:=⟨_,rfl⟩
  have hmi:(if 200<n then (200:Int) else n)=(m:Int):=by split<;>omega
  have hm2:m<=200:=by omega
  generalize ho:(⟨a1,a2,a3,⟨x1,x2,x3⟩,tx,(a0T m ⟨s6,b6⟩).1,0,0,0⟩:OpV)=o
  obtain ⟨cm,lm⟩:=a8i c6 m
  have hoo:okO o:=by subst ho;exact ⟨lt,by show (a0T m ⟨s6,b6⟩).1.length<_;omega⟩
  have e7:a7V ⟨s,bad⟩=(o,⟨(a0T m ⟨s6,b6⟩).2.s,(a0T m ⟨s6,b6⟩).2.bad||decide (200<n)||!a0v o⟩):=by simp [a7V,e1,e2,e3,e4,e5,e6,k',ho,<-hm]
  simp [d7c,hid,hfu,hr,c1,c2,c3,c4,c5,c6,e1,e2,e3,e4,e5,e6,e7,a0Z,b0K,b1B,b48,b6Y,n1,n2,k,hmi]
  obtain ⟨r6,hr6⟩:∃r6:RdV,r6=⟨s6,b6⟩:=⟨_,rfl⟩
  rw [<-hr6] at ho cm lm e7 c6 ⊢
  refine a1E (fun q st=>∃(i:Nat) (g:AC),i<=m/\q=m-i/\st.s 0=.c (.pt id 0 0)/\st.s 2=.c (.pt (T,2) 0 0)/\st.s 3=.c (.pt (T+1,3) 0 0)/\st.s 4=.c (.raw (.int .i64 n))/\st.s 33=.c (.raw (.int .i64 m))/\st.s 34=.c (.raw (.int .i64 i))/\
   st.H id=.arr 253 2 false [a0Z (a0T i r6).2]/\st.H (T,2)=.arr 53 11 false [a0K (.raw (.slice none 0 0)) ⟨0,0,0,⟨0,0,0⟩,[],[],0,0,0⟩]/\st.H (T+1,3)=.arr 53 11 false [a0K g ⟨a1,a2,a3,⟨x1,x2,x3⟩,tx,[],0,0,0⟩]/\
   ((g=.raw (.slice none 0 0)/\i=0)\/∃j,g=.so j 0 i/\H j=.a0g/\st.H j=.arr 50 3 false (a0a (a0T i r6).1))/\a0z [id] H st.H/\T+1<st.T/\a0E st.H st.T) m ?_ ?_
  ·refine ⟨0,.raw (.slice none 0 0),by omega,by omega,?_⟩
   simp [n1,n2,hid,a0T,a0Z,a0K,hr6]
   refine ⟨?_,?_⟩
   ·(repeat' (first|exact a0z.refl _ _|assumption|(refine a0z.set ?_ (by first|(right;simp;done)|(left;simp [hfu];done)|(left;exact hfu _ _ (by omega))|(left;assumption)))))
   ·repeat' (first|exact hf.mono (by first|omega|(simp<;>omega))|(refine a0E.set' ?_ (by first|omega|(simp<;>omega))))
  rintro q st ⟨i,g,hi,rfl,q0,q2,q3,q4,q33,q34,h1,h2,h3,hg,hsb,hT,hf'⟩
  have b6W:∀k d,st.T<=k->st.H (k,d)=.a0g:=hf'
  obtain ⟨ci,li⟩:=a8i c6 i
  rcases er:(a0T i r6).2 with ⟨si,bi⟩
  rw [er] at h1 ci
  by_cases hlt:i<m
  ·have hlt':(i:Int)<m:=by omega
   have hw:IntKind.wrap .i64 ((i:Int)+1)=((i+1:Nat):Int):=by rw [a0d]<;>omega
   rcases e8:a1a ⟨si,bi⟩ with ⟨⟨y1,y2,y3⟩,s9,b9⟩
   obtain ⟨p1,p2,p3⟩:=hf'.arr h1
   obtain ⟨p4,p5,p6⟩:=hf'.arr h3
   have e9:(a0T (i+1) r6)=((a0T i r6).1++[⟨y1,y2,y3⟩],⟨s9,b9⟩):=by simp [a0T,er,e8]
   have ht:a0a (a0T (i+1) r6).1=a0a (a0T i r6).1++[Enc.row (⟨y1,y2,y3⟩:a0F)]:=by rw [e9,a4h]
   have d1:=n2 (T+1) 3 (by omega)
   have d2:=n1 (T+1) 3 (by omega)
   rcases hg with ⟨rfl,rfl⟩|⟨j,rfl,hju,hj⟩
   ·simp [a7x,q0,q2,q3,q4,q33,q34,h1,h2,h3,hlt,hlt',hw,b6W,ci,e8,b1B,a0Z,a0K,p1,p2,p4,p5,d1,d2]
    refine ⟨by omega,m-1,by omega,1,by omega,rfl,rfl,?_,by rw [n1 T 2 (Nat.le_refl _)];simp,⟨_,_,⟨⟨rfl,rfl⟩,rfl⟩,hfu _ _ (by omega),?_⟩,?_⟩
    ·have:=e9
     simp at this
     rw [this]
     exact ⟨rfl,rfl⟩
    ·simp at ht
     rw [ht]
     simp [a0T]
    ·refine ⟨?_,by omega,?_⟩
     ·(repeat' (first|exact a0z.refl _ _|assumption|(refine a0z.set ?_ (by first|(right;simp;done)|(left;simp [hfu];done)|(left;exact hfu _ _ (by omega))|(left;assumption)))))
     ·have hf:=hf'
      repeat' (first|exact hf.mono (by first|omega|(simp<;>omega))|(refine a0E.set' ?_ (by first|omega|(simp<;>omega))))
   ·obtain ⟨p7,p8,p9⟩:=hf'.arr hj
    have ne:∀{x:Id} {e sz:Nat} {f:Bool} {rows:List (List AC)},st.H x=.arr e sz f rows->e≠50->(j=x)=False/\(x=j)=False:=by
     intro x e sz f rows hx he
     constructor
     ·simp;rintro rfl;rw [hx] at hj;simp at hj;exact he hj.1
     ·simp;rintro rfl;rw [hx] at hj;simp at hj;exact he hj.1
    obtain ⟨g1,g2⟩:=ne h1 (by decide)
    obtain ⟨g3,g4⟩:=ne h2 (by decide)
    obtain ⟨g5,g6⟩:=ne h3 (by decide)
    simp [a7x,q0,q2,q3,q4,q33,q34,h1,h2,h3,hlt,hlt',hw,b6W,ci,e8,b1B,a0Z,a0K,p1,p2,p4,p5,d1,d2,hj,p7,p8,g1,g2,g3,g4,g5,g6,li]
    refine ⟨⟨by omega,by omega⟩,by omega,m-(i+1),by omega,i+1,by omega,rfl,rfl,?_,by rw [n1 T 2 (Nat.le_refl _)];simp,⟨_,_,⟨⟨rfl,rfl⟩,rfl⟩,hfu _ _ (by omega),?_⟩,?_⟩
    ·rw [e9]
     exact ⟨rfl,rfl⟩
    ·rw [ht]
     simp
    ·refine ⟨?_,by omega,?_⟩
     ·(repeat' (first|exact a0z.refl _ _|assumption|(refine a0z.set ?_ (by first|(right;simp;done)|(left;simp [hfu];done)|(left;exact hfu _ _ (by omega))|(left;assumption)))))
     ·have hf:=hf'
      repeat' (first|exact hf.mono (by first|omega|(simp<;>omega))|(refine a0E.set' ?_ (by first|omega|(simp<;>omega))))
  ·have:i=m:=by omega
   subst this
   have hf0:=hf
   have d3:((T,2)=id)=False:=n1 T 2 (Nat.le_refl _)
   have d4:(id=(T,2))=False:=n2 T 2 (Nat.le_refl _)
   obtain ⟨p1,p2,p3⟩:=hf'.arr h1
   have d1:=n2 (T+1) 3 (by omega)
   have d2:=n1 (T+1) 3 (by omega)
   rw [er] at e7
   have og:o.gone=(a0T i r6).1:=by rw [<-ho]
   rcases hg with ⟨rfl,rfl⟩|⟨j,rfl,hju,hj⟩
   ·have ho':(⟨a1,a2,a3,⟨x1,x2,x3⟩,tx,[],0,0,0⟩:OpV)=o:=by rw [<-ho];rfl
    have hx:(a0a o.gone)=[]:=by rw [og];rfl
    cases c:(bi||decide (200<n))
    ·obtain ⟨c1,c2⟩:=Bool.or_eq_false_iff.1 c
     subst c1
     simp [a7x,er,q0,q2,q3,q4,q33,q34,h1,h2,h3,b6W,a0Z,a0K,p1,p2,d1,d2,d3,d4,c2,ho',hoo,hx]
     refine ⟨by rw [<-ho];simp,?_⟩
     (repeat' (first|exact a0z.refl _ _|assumption|(refine a0z.set ?_ (by first|(right;simp;done)|(left;simp [hfu];done)|(left;exact hfu _ _ (by omega))|(left;assumption)))))
    ·cases bi
     ·simp only [Bool.false_or] at c
      simp [a7x,er,q0,q2,q3,q4,q33,q34,h1,h2,h3,b6W,a0Z,a0K,p1,p2,d1,d2,d3,d4,c,ho',hoo,hx]
      refine ⟨by rw [<-ho];simp,?_⟩
      (repeat' (first|exact a0z.refl _ _|assumption|(refine a0z.set ?_ (by first|(right;simp;done)|(left;simp [hfu];done)|(left;exact hfu _ _ (by omega))|(left;assumption)))))
     ·simp [a7x,er,q0,q2,q3,q4,q33,q34,h1,h2,h3,b6W,a0Z,a0K,p1,p2,d1,d2,d3,d4,ho',hoo,hx]
      refine ⟨by rw [<-ho];simp,?_⟩
      (repeat' (first|exact a0z.refl _ _|assumption|(refine a0z.set ?_ (by first|(right;simp;done)|(left;simp [hfu];done)|(left;exact hfu _ _ (by omega))|(left;assumption)))))
   ·have ho':(⟨a1,a2,a3,⟨x1,x2,x3⟩,tx,(a0T i r6).1,0,0,0⟩:OpV)=o:=ho
    obtain ⟨p7,p8,p9⟩:=hf'.arr hj
    have ne:∀{x:Id} {e sz:Nat} {f:Bool} {rows:List (List AC)},st.H x=.arr e sz f rows->e≠50->(j=x)=False/\(x=j)=False:=by
     intro x e sz f rows hx he
     constructor
     ·simp;rintro rfl;rw [hx] at hj;simp at hj;exact he hj.1
     ·simp;rintro rfl;rw [hx] at hj;simp at hj;exact he hj.1
    have htk:List.take i (a0a (a0T i r6).1)=a0a (a0T i r6).1:=List.take_of_length_le (by simp [a0a,li])
    obtain ⟨g1,g2⟩:=ne h1 (by decide)
    obtain ⟨g3,g4⟩:=ne h2 (by decide)
    obtain ⟨g5,g6⟩:=ne h3 (by decide)
    cases c:(bi||decide (200<n))
    ·obtain ⟨c1,c2⟩:=Bool.or_eq_false_iff.1 c
     subst c1
     simp [a7x,er,q0,q2,q3,q4,q33,q34,h1,h2,h3,b6W,a0Z,a0K,p1,p2,d1,d2,d3,d4,c2,ho',hoo,hj,p7,p8,g1,g2,g3,g4,g5,g6,li,og,htk]
     refine ⟨by rw [<-ho];simp,fun a b h=>by rw [h];exact hju,?_⟩
     (repeat' (first|exact a0z.refl _ _|assumption|(refine a0z.set ?_ (by first|(right;simp;done)|(left;simp [hfu];done)|(left;exact hfu _ _ (by omega))|(left;assumption)))))
    ·cases bi
     ·simp only [Bool.false_or] at c
      simp [a7x,er,q0,q2,q3,q4,q33,q34,h1,h2,h3,b6W,a0Z,a0K,p1,p2,d1,d2,d3,d4,c,ho',hoo,hj,p7,p8,g1,g2,g3,g4,g5,g6,li,og,htk]
      refine ⟨by rw [<-ho];simp,fun a b h=>by rw [h];exact hju,?_⟩
      (repeat' (first|exact a0z.refl _ _|assumption|(refine a0z.set ?_ (by first|(right;simp;done)|(left;simp [hfu];done)|(left;exact hfu _ _ (by omega))|(left;assumption)))))
     ·simp [a7x,er,q0,q2,q3,q4,q33,q34,h1,h2,h3,b6W,a0Z,a0K,p1,p2,d1,d2,d3,d4,ho',hoo,hj,p7,p8,g1,g2,g3,g4,g5,g6,li,og,htk]
      refine ⟨by rw [<-ho];simp,fun a b h=>by rw [h];exact hju,?_⟩
      (repeat' (first|exact a0z.refl _ _|assumption|(refine a0z.set ?_ (by first|(right;simp;done)|(left;simp [hfu];done)|(left;exact hfu _ _ (by omega))|(left;assumption)))))
open Go Go.Proofs
theorem a7B (g:FuncId) (caps:List AC) (p:List UInt8->Bool) (l:List (List UInt8)) (hl:l.length<1000000) (b0G:∀c∈caps,c2k c) (b9H:a4B a0s (caps.map .c)=some (caps.map .c)) (c5Y:a4I a0s caps=some caps)
  (hp:∀s∈l,PEv Tryz.prog g (.c (.str s)::caps.map .c) (.c (.raw (.bool (p s))))) :
  PEv Tryz.prog 126 [.c (.sl .brw false (a0a l)),.c (.fn g caps)] (.c (.raw (.bool (l.any p)))):=by
 have hF:a1k Tryz.prog []:=trivial
 refine a0f mixed hF Tryz.func126 e6D e6E (by kernel_rfl) (by simp) (by simpa using b0G) ?_
 simp [e6C]
 refine a0R (b0R g caps p l hl b0G b9H hp) (by simp [c5Y]) (by simp) (by simp) ?_
 simp
 rw [Bool.eq_iff_iff,decide_eq_true_iff]
 exact a3T p l 0
theorem b3n (g:FuncId) (caps:List AC) (p:a4M->Bool) (l:List a4M) (hl:l.length<1000000) (b0G:∀c∈caps,c2k c) (b9H:a4B a0s (caps.map .c)=some (caps.map .c)) (c5Y:a4I a0s caps=some caps)
  (hp:∀s∈l,PEv Tryz.prog g (.g [.raw (.int .i64 s.at_),.str s.text]::caps.map .c) (.c (.raw (.bool (p s))))) :
  PEv Tryz.prog 128 [.c (.sl .brw false (a0a l)),.c (.fn g caps)] (.c (.raw (.bool (l.any p)))):=by
 have hF:a1k Tryz.prog []:=trivial
 refine a0f mixed hF Tryz.func128 e6J e6K (by kernel_rfl) (by simp) (by simpa using b0G) ?_
 simp [e6I]
 refine a0R (b0S g caps p l hl b0G b9H hp) (by simp [c5Y]) (by simp) (by simp) ?_
 simp
 rw [Bool.eq_iff_iff,decide_eq_true_iff]
 exact a3T p l 0
def a4Y (s:List UInt8):Bool:=decide (s.length=32)
theorem d0Y (s:List UInt8):PEv Tryz.prog 127 [.c (.str s)] (.c (.raw (.bool (!a4Y s)))):=by
 refine a0f mixed b2A Tryz.func127 e6G e6H (by kernel_rfl) (by simp) (by simp) ?_
 simp [e6F,a4Y]
def a2Z (n:Nat) (x:a4M):Bool:=!a4Y x.text||decide (x.at_<0)||decide ((n:Int)<=x.at_)
theorem d0Z (d:a0k) (x:a4M):PEv Tryz.prog 129 [.g [.raw (.int .i64 x.at_),.str x.text],.c (.pv .brw [.sl .brw false (a0a d.safe),.sl .brw false (a0a d.wait)] 0)] (.c (.raw (.bool (a2Z d.safe.length x)))):=by
 refine a0f mixed b2A Tryz.func129 e6M e6N (by kernel_rfl) (by simp) (by simp) ?_
 simp [e6L,a2Z,a4Y]
 omega
open Go Go.Proofs
def a1N (d:a0k):Bool:=decide (1<=d.safe.length)&&decide (d.safe.length<=400)&&decide (d.wait.length<=400)&&d.safe.all a4Y&&d.wait.all fun x=>!a2Z d.safe.length x
theorem d00 {α:Type} (p:α->Bool) (l:List α):(l.any fun x=>!p x)=!l.all p:=by
 induction l with
 |nil=>rfl
 |cons x r ih=>simp [ih]
theorem c4r (d:a0k) (h1:d.safe.length<1000000) (h2:d.wait.length<1000000):PEv Tryz.prog 74 [Arg.enc d] (.c (.raw (.bool (a1N d)))):=by
 refine a0f mixed b2A Tryz.func74 f6O f6P (by kernel_rfl) (by simp) (by simp) ?_
 simp [s74]
 refine ⟨fun g1=>⟨fun g2=>⟨fun g3=>?_,fun g3=>?_⟩,fun g2=>?_⟩,fun g1=>?_⟩
 ·simp [a1N];omega
 ·refine a0R (a7B 127 [] (fun s=>!a4Y s) d.safe h1 (by simp) (by simp) (by simp) fun s _=>d0Y s) ?_ (by simp) (by simp) ?_
  ·simp
  ·simp
   refine ⟨fun s hs hx=>?_,fun hs=>?_⟩
   ·simp [a1N];intro _ _ _ ha;rw [ha s hs] at hx;cases hx
   ·refine a0R (b3n 129 [.pv .brw [.sl .brw false (a0a d.safe),.sl .brw false (a0a d.wait)] 0] (a2Z d.safe.length) d.wait h2 (by simp) (by simp) (by simp) fun x _=>d0Z d x) ?_ (by simp) (by simp) ?_
    ·simp
    ·simp
     have e:d.safe.all a4Y=true:=List.all_eq_true.2 hs
     have e2:d.wait.any (a2Z d.safe.length)=!d.wait.all fun x=>!a2Z d.safe.length x:=by rw [<-d00];simp
     rw [e2,a1N,e]
     simp [show 1<=d.safe.length by omega,show d.safe.length<=400 by omega,show d.wait.length<=400 by omega]
 ·simp [a1N];omega
 ·simp [a1N];omega
theorem a7C {α:Type} {p:α->Bool} {l:List α} {i:Nat} (h:(l.take i).all p=true) (hi:i<l.length) (hp:p l[i]=true):(l.take (i+1)).all p=true:=by
 rw [List.take_add_one,List.all_append,h];simp [hi,hp]
theorem a55 {α:Type} {p:α->Bool} {l:List α} {i:Nat} (hi:i<l.length) (hp:p l[i]=false):l.all p=false:=by
 rw [List.all_eq_false];exact ⟨l[i],List.getElem_mem hi,by simp [hp]⟩
def a56 (d:a0k) (H:Heap) (i:Id):Prop:=H i=.arr 25 2 false [[.sl .brw false (a0a d.safe),.sl .brw false (a0a d.wait)]]
theorem c1z {F:CT} (d:a0k) (h1:d.safe.length<281474976710656) {Q:AEx->St->Prop} {st:St} (k1:st.s 1=.c (.pt (0,1) 0 0)) (kH:a56 d st.H (0,1)) (k3:st.s 3=.c (.raw (.int .i64 0)))
  (hn:∀st',st'.s 1=.c (.pt (0,1) 0 0)->a56 d st'.H (0,1)->d.safe.all a4Y=true->Q (.exit 0) st') (hr:∀st',st'.s 2=.c (.raw (.bool false))->d.safe.all a4Y=false->Q .ret st') :
  a2S Tryz.prog F (.loop c20) Q st:=by
 refine a1E (fun n st=>∃i:Nat,i<=d.safe.length/\n=d.safe.length-i/\st.s 1=.c (.pt (0,1) 0 0)/\a56 d st.H (0,1)/\st.s 3=.c (.raw (.int .i64 i))/\(d.safe.take i).all a4Y=true) d.safe.length ⟨0,by simp [k1,kH,k3]⟩ ?_
 rintro n st ⟨i,hi,rfl,k1,kH',k3,ha⟩
 have kH:=kH'
 unfold a56 at kH
 by_cases hlt:i<d.safe.length
 ·have e2:IntKind.wrap .i64 ((i:Int)+1)=((i+1:Nat):Int):=by rw [a0d]<;>omega
  simp [c20,k1,kH,k3,hlt,e2]
  refine ⟨fun hne=>hr _ (by simp) (a55 (p:=a4Y) hlt (by simp [a4Y];omega)),fun he=>⟨d.safe.length-(i+1),by omega,i+1,by omega,rfl,kH',rfl,?_⟩⟩
  have:=a7C ha hlt (by simp [a4Y];omega)
  simpa using this
 ·have:i=d.safe.length:=by omega
  subst this
  rw [List.take_length] at ha
  simp [c20,k1,kH,k3,hlt]
  exact hn _ (by simp [k1]) (by simp [kH']) ha
theorem c1A {F:CT} (d:a0k) (h0:1<=d.safe.length) (h1:d.safe.length<281474976710656) (h2:d.wait.length<281474976710656) {Q:AEx->St->Prop} {st:St} (k1:st.s 1=.c (.pt (0,1) 0 0)) (kH:a56 d st.H (0,1)) (k3:st.s 4=.c (.raw (.int .i64 0)))
  (hF:a0c F 63=a0c F2 63)
  (hn:∀st',(d.wait.all fun x=>!a2Z d.safe.length x)=true->Q (.exit 2) st') (hr:∀st',st'.s 2=.c (.raw (.bool false))->(d.wait.all fun x=>!a2Z d.safe.length x)=false->Q .ret st') :
  a2S Tryz.prog F (.loop c6I) Q st:=by
 refine a1E (fun n st=>∃i:Nat,i<=d.wait.length/\n=d.wait.length-i/\st.s 1=.c (.pt (0,1) 0 0)/\a56 d st.H (0,1)/\st.s 4=.c (.raw (.int .i64 i))/\(d.wait.take i).all (fun x=>!a2Z d.safe.length x)=true) d.wait.length ⟨0,by simp [k1,kH,k3]⟩ ?_
 rintro n st ⟨i,hi,rfl,k1,kH',k3,ha⟩
 have kH:=kH'
 unfold a56 at kH
 by_cases hlt:i<d.wait.length
 ·have e2:IntKind.wrap .i64 ((i:Int)+1)=((i+1:Nat):Int):=by rw [a0d]<;>omega
  have e3:IntKind.wrap .i64 ((d.safe.length:Int)-1)=(d.safe.length:Int)-1:=by rw [a0d]<;>omega
  simp [c6I,k1,kH,k3,hlt,e2,e3,hF]
  refine ⟨fun a b=>⟨fun hne=>hr _ (by simp) (a55 (p:=fun x=>!a2Z d.safe.length x) hlt (by simp [a2Z,a4Y];omega)),fun he=>⟨d.wait.length-(i+1),by omega,i+1,by omega,rfl,kH',rfl,?_⟩⟩,fun a=>hr _ (by simp) (a55 (p:=fun x=>!a2Z d.safe.length x) hlt (by simp [a2Z,a4Y];omega))⟩
  have:=a7C ha hlt (by simp [a2Z,a4Y];omega)
  simpa using this
 ·have:i=d.wait.length:=by omega
  subst this
  rw [List.take_length] at ha
  simp [c6I,k1,kH,k3,hlt]
  exact hn _ ha
theorem b1C (d:a0k) (h1:d.safe.length<281474976710656) (h2:d.wait.length<281474976710656):PEv Tryz.prog 47 [Arg.enc d] (.c (.raw (.bool (a1N d)))):=by
 refine a0f mixed d0Q Tryz.func47 f6A f6B (by kernel_rfl) (by simp) (by simp) ?_
 simp [s47]
 repeat' (first|(intro _)|(with_reducible apply And.intro))
 ·simp [a1N];omega
 ·refine c1z d h1 (by simp) (by simp [a56]) (by simp) ?_ ?_
  ·intro st' k1 kH hs
   simp [k1]
   refine c1A d (by omega) h1 h2 (by simp [k1]) kH (by simp) rfl ?_ ?_
   ·intro st' hw
    simp
    rw [a1N,hs,hw]
    simp [show 1<=d.safe.length by omega,show d.safe.length<=400 by omega,show d.wait.length<=400 by omega]
   ·intro st' k2 hw
    simp [k2]
    rw [a1N,hw];simp
  ·intro st' k2 hs
   simp [k2]
   rw [a1N,hs];simp
 all_goals (simp [a1N];omega)
open Go Go.Proofs
def b1D (safe:List (List UInt8)) (w:a4M) (k:Int):List (List UInt8):=
 if k=1 then safe.set w.at_.toNat w.text else if k=2 then safe.set w.at_.toNat (w.text.take 16++(safe.getD w.at_.toNat []).drop 16) else safe
def a3n (keep:List Int) (i:Nat):Int:=if (keep.getD i 0)<0 then 0 else (keep.getD i 0)%3
def a1O (keep:List Int):Nat->List (List UInt8)->List a4M->List (List UInt8)
 |_,safe,[]=>safe
 |i,safe,w::r=>a1O keep (i+1) (b1D safe w (a3n keep i)) r
def a39:List (List UInt8)->List a4M->List (List UInt8)
 |safe,[]=>safe
 |safe,w::r=>a39 (safe.set w.at_.toNat w.text) r
theorem a6W (safe:List (List UInt8)) (w:a4M) (k:Int):(b1D safe w k).length=safe.length:=by
 unfold b1D;split<;>(try split)<;>simp
theorem a3P (keep:List Int):∀(l:List a4M) (i:Nat) (safe:List (List UInt8)),(a1O keep i safe l).length=safe.length
 |[],_,_=>rfl
 |w::r,i,safe=>by rw [a1O,a3P,a6W]
theorem a95 {d:a0k} (h:a1N d=true):1<=d.safe.length/\d.safe.length<=400/\d.wait.length<=400/\(∀s∈d.safe,s.length=32)/\∀x∈d.wait,x.text.length=32/\0<=x.at_/\x.at_<d.safe.length:=by
 simp only [a1N,Bool.and_eq_true,decide_eq_true_eq,List.all_eq_true] at h
 obtain ⟨⟨⟨⟨h1,h2⟩,h3⟩,h4⟩,h5⟩:=h
 refine ⟨h1,h2,h3,fun s hs=>by simpa [a4Y] using h4 s hs,fun x hx=>?_⟩
 have:=h5 x hx
 simp [a2Z,a4Y] at this
 omega
theorem c4s {α:Type} {p:α->Prop} {l:List α} {i:Nat} {x:α} (h:∀s∈l,p s) (hx:p x):∀s∈l.set i x,p s:=fun s hs=>by
 rcases List.mem_or_eq_of_mem_set hs with q|q
 ·exact h s q
 ·rw [q];exact hx
theorem c0q {safe:List (List UInt8)} {w:a4M} {k:Int} (h:∀s∈safe,s.length=32) (hw:w.text.length=32) (h0:0<=w.at_) (h1:w.at_<safe.length):∀s∈b1D safe w k,s.length=32:=by
 unfold b1D
 split
 ·exact c4s h hw
 ·split
  ·refine c4s h ?_
   have:w.at_.toNat<safe.length:=by omega
   have:=h (safe.getD w.at_.toNat []) (by simp [List.getD,this])
   simp [hw] at this ⊢
   omega
  ·exact h
def a8j (d:a0k):OK:=.arr 25 2 false [[.sl .brw false (a0a d.safe),.sl .brw false (a0a d.wait)]]
def b7M (H:Heap) (v i:Id) (safe:List (List UInt8)):Prop:=H v=.arr 25 2 false [[.so i 0 safe.length,.raw (.slice none 0 0)]]/\H i=.arr 9 1 false (a0a safe)/\v≠i
theorem b6c {keep:List Int} {i:Nat} (hk:i<keep.length):keep.getD i 0=keep[i]:=by simp [List.getD,hk]
theorem a4i {l:List (List UInt8)} {i:Nat} {a:List UInt8}:a0a (l.set i a)=(a0a l).set i [AC.str a]:=(c3k l i a).symm
theorem b6d {F:CT} (d:a0k) (keep:List Int) (hd:a1N d=true) (hkl:keep.length<281474976710656) {Q:AEx->St->Prop} {st:St} (b v i:Id) (k6:st.s 6=.c (.pt v 0 0)) (b4:Id) (k4:st.s 4=.c (.pt b4 0 0))
  (k1:st.s 1=.c (.sl .brw false (a0a keep))) (kv:b7M st.H v i d.safe) (k18:st.s 18=.c (.sl .brw false (a0a d.wait))) (k19:st.s 19=.c (.raw (.int .i64 d.wait.length))) (k20:st.s 20=.c (.raw (.int .i64 0)))
  (hf:a0E st.H st.T)
  (hn:∀st',st'.s 6=.c (.pt v 0 0)->st'.s 4=.c (.pt b4 0 0)->st'.H i=.arr 9 1 false (a0a (a1O keep 0 d.safe d.wait))->a3f [i] st.H st.T st'.H st'.T->Q (.exit 0) st') :
  a2S Tryz.prog F (.loop b5G) Q st:=by
 obtain ⟨hd1,hd2,hd3,hd4,hd5⟩:=a95 hd
 obtain ⟨kv,ki,hvi⟩:=kv
 refine a1E (fun n st'=>∃(j:Nat) (safe:List (List UInt8)),j<=d.wait.length/\n=d.wait.length-j/\safe.length=d.safe.length/\(∀s∈safe,s.length=32)/\st'.s 6=.c (.pt v 0 0)/\st'.s 4=.c (.pt b4 0 0)/\
  st'.s 1=.c (.sl .brw false (a0a keep))/\st'.H i=.arr 9 1 false (a0a safe)/\st'.s 18=.c (.sl .brw false (a0a d.wait))/\st'.s 19=.c (.raw (.int .i64 d.wait.length))/\st'.s 20=.c (.raw (.int .i64 j))/\a3f [i] st.H st.T st'.H st'.T/\
  a1O keep j safe (d.wait.drop j)=a1O keep 0 d.safe d.wait) d.wait.length ⟨0,d.safe,by simp [k6,k4,k1,ki,k18,k19,k20,a3f.refl hf];exact hd4⟩ ?_
 rintro n st' ⟨j,safe,hj,rfl,hl,hs,k6,k4,k1,ki,k18,k19,k20,he,hc⟩
 have hf':=he.fresh
 have kv:=he.arr kv (by simpa using hvi)
 obtain ⟨f4,f5,f6⟩:=hf'.arr kv
 obtain ⟨f7,f8,f9⟩:=hf'.arr ki
 have hfu:∀k d,st'.T<=k->st'.H (k,d)=.a0g:=hf'
 have hT:=he.2.2.1
 have hiv:(i=v)=False:=by simp only [eq_iff_iff,iff_false];exact fun e=>hvi e.symm
 by_cases hlt:j<d.wait.length
 ·have e2:IntKind.wrap .i64 ((j:Int)+1)=((j+1:Nat):Int):=by rw [a0d]<;>omega
  obtain ⟨w1,w2,w3⟩:=hd5 d.wait[j] (List.getElem_mem hlt)
  have w4:d.wait[j].at_.toNat<safe.length:=by omega
  have w5:d.wait[j].at_<safe.length:=by omega
  have w5':d.wait[j].at_<d.safe.length:=w3
  have w6:=hs safe[d.wait[j].at_.toNat] (List.getElem_mem w4)
  rw [List.drop_eq_getElem_cons hlt,a1O] at hc
  have hlen:(b1D safe d.wait[j] (a3n keep j)).length=d.safe.length:=by rw [a6W,hl]
  have b02:=c0q (k:=a3n keep j) hs w1 w2 w5
  by_cases hk:j<keep.length
  ·have t3:0<=keep[j]->keep[j].tmod 3=keep[j]%3:=fun h=>Int.tmod_eq_emod_of_nonneg h
   have kA:a3n keep j=if keep[j]<0 then 0 else keep[j]%3:=by rw [a3n,b6c hk]
   have hk':(keep.length<=j)=False:=by simp;omega
   by_cases g:keep[j]<0
   ·simp [b5G,k6,k4,k1,kv,ki,k18,k19,k20,hlt,e2,f4,f5,f7,f8,hfu,hk,hk',w1,w2,w4,w5',hiv,w6,g]
    refine ⟨d.wait.length-(j+1),by omega,j+1,by omega,rfl,_,hlen,b02,?_,rfl,?_,hc⟩
    ·rw [kA,if_pos g];simp [b1D]
    ·repeat' (first|exact he.tick (by first|omega|(simp<;>omega))|(refine a3f.new ?_ (by first|omega|(simp<;>omega)) (by first|omega|(simp<;>omega)))|(refine a3f.set ?_ (by simp) (by first|omega|(simp<;>omega))))
   ·have g':(keep[j]<0)=False:=by simp;omega
    by_cases g1:keep[j].tmod 3=1
    ·simp [b5G,k6,k4,k1,kv,ki,k18,k19,k20,hlt,e2,f4,f5,f7,f8,hfu,hk,hk',w1,w2,w4,w5',hiv,w6,g',g1]
     refine ⟨d.wait.length-(j+1),by omega,j+1,by omega,rfl,_,hlen,b02,?_,rfl,?_,hc⟩
     ·rw [kA,if_neg (by omega),<-t3 (by omega),g1];simp [b1D,a4i]
     ·repeat' (first|exact he.tick (by first|omega|(simp<;>omega))|(refine a3f.new ?_ (by first|omega|(simp<;>omega)) (by first|omega|(simp<;>omega)))|(refine a3f.set ?_ (by simp) (by first|omega|(simp<;>omega))))
    ·by_cases g2:keep[j].tmod 3=2
     ·simp [b5G,k6,k4,k1,kv,ki,k18,k19,k20,hlt,e2,f4,f5,f7,f8,hfu,hk,hk',w1,w2,w4,w5',hiv,w6,g',g1,g2]
      refine ⟨d.wait.length-(j+1),by omega,j+1,by omega,rfl,_,hlen,b02,?_,rfl,?_,hc⟩
      ·rw [kA,if_neg (by omega),<-t3 (by omega),g2];simp [b1D,a4i,w4,List.take_of_length_le (Nat.le_of_eq w6)]
      ·repeat' (first|exact he.tick (by first|omega|(simp<;>omega))|(refine a3f.new ?_ (by first|omega|(simp<;>omega)) (by first|omega|(simp<;>omega)))|(refine a3f.set ?_ (by simp) (by first|omega|(simp<;>omega))))
     ·simp [b5G,k6,k4,k1,kv,ki,k18,k19,k20,hlt,e2,f4,f5,f7,f8,hfu,hk,hk',w1,w2,w4,w5',hiv,w6,g',g1,g2]
      refine ⟨d.wait.length-(j+1),by omega,j+1,by omega,rfl,_,hlen,b02,?_,rfl,?_,hc⟩
      ·rw [kA,if_neg (by omega),<-t3 (by omega)];simp [b1D,g1,g2]
      ·repeat' (first|exact he.tick (by first|omega|(simp<;>omega))|(refine a3f.new ?_ (by first|omega|(simp<;>omega)) (by first|omega|(simp<;>omega)))|(refine a3f.set ?_ (by simp) (by first|omega|(simp<;>omega))))
  ·have kA:a3n keep j=0:=by simp [a3n,List.getD,hk]
   simp [b5G,k6,k4,k1,kv,ki,k18,k19,k20,hlt,e2,f4,f5,f7,f8,hfu,hk,w1,w2,w4,w5',hiv,w6]
   refine fun _=>⟨d.wait.length-(j+1),by omega,j+1,by omega,rfl,_,hlen,b02,?_,rfl,?_,hc⟩
   ·rw [kA];simp [b1D]
   ·repeat' (first|exact he.tick (by first|omega|(simp<;>omega))|(refine a3f.new ?_ (by first|omega|(simp<;>omega)) (by first|omega|(simp<;>omega)))|(refine a3f.set ?_ (by simp) (by first|omega|(simp<;>omega))))
 ·have:j=d.wait.length:=by omega
  subst this
  simp [b5G,k6,k1,kv,ki,k18,k19,k20,hlt]
  rw [List.drop_length,a1O] at hc
  exact hn _ (by simp [k6]) (by simp [k4]) (by rw [<-hc];simpa using ki) (he.tick (by simp))
open Go Go.Proofs
def c4t:List AV->Option (Prop×AV):=t1 (fun d:a0k=>d.safe.length<1000000/\d.wait.length<1000000) fun d:a0k=>.c (.raw (.bool (a1N d)))
@[simp] theorem f2Y {l:List AV}:c4t l=(t1 (fun d:a0k=>d.safe.length<1000000/\d.wait.length<1000000) fun d:a0k=>.c (.raw (.bool (a1N d)))) l:=(rfl)
def c4u:List AV->Option (Prop×AV):=t1 (fun d:a0k=>d.safe.length<1000000/\d.wait.length<1000000) fun d:a0k=>.g (a0y d)
@[simp] theorem f2Z {l:List AV}:c4u l=(t1 (fun d:a0k=>d.safe.length<1000000/\d.wait.length<1000000) fun d:a0k=>.g (a0y d)) l:=(rfl)
def d7Y:List AV->Option (Prop×AV):=t1 (fun d:a0k=>d.safe.length<281474976710656/\d.wait.length<281474976710656) fun d:a0k=>.c (.raw (.bool (a1N d)))
def c4v:List AV->Option (Prop×AV):=t0 (.c (.str blank))
@[simp] theorem f3a {l:List AV}:c4v l=(t0 (.c (.str blank))) l:=(rfl)
def F4:CT:=(74,.pu c4t)::(84,.pu c4u)::(47,.pu d7Y)::(38,.pu c4v)::F3
theorem a7D:a1k Tryz.prog F4:=⟨a0n fun d h=>c4r d h.1 h.2,
 a0n fun d h=>b2K d h.1 h.2,
 a0n fun d h=>b1C d h.1 h.2,
 b1i a8e,d7h⟩
@[simp] theorem e3N:a0c F4 74=some (.pu c4t):=(rfl)
@[simp] theorem e3O:a0c F4 84=some (.pu c4u):=(rfl)
@[simp] theorem e3P:a0c F4 38=some (.pu c4v):=(rfl)
@[simp] theorem f3b {n:Nat} (h:(n==74||n==84||n==47||n==38)=false):a0c F4 n=a0c F3 n:=by
 simp only [Bool.or_eq_false_iff,beq_eq_false_iff_ne,ne_eq] at h
 simp [F4,a0c,h]
def a7E (d:a0k) (keep:List Int):a0k×Int:=if a1N d=true then (⟨a1O keep 0 d.safe d.wait,[]⟩,0) else (⟨[],[]⟩,1)
def a1j (r:a0k×Int):AV:=.t [(true,a0y r.1),(false,[.raw (.int .i64 r.2)])]
theorem a8X (d:a0k) (keep:List Int) (h1:d.safe.length<1000000) (h2:d.wait.length<1000000) (h3:keep.length<281474976710656) :
  PEv Tryz.prog 40 [Arg.enc d,.c (.sl .brw false (a0a keep))] (a1j (a7E d keep)):=by
 refine a0f mixed a7D Tryz.func40 f6w f6x (by kernel_rfl) (by simp [a1j,a0y]) (by simp) ?_
 unfold a7E
 by_cases hm:a1N d=true
 ·simp [s40,h1,h2,hm]
  refine b6d d keep hm h3 (0,2) (2,6) (2,16384) (by simp) (0,4) (by simp) (by simp) ⟨by simp,by simp,by simp⟩ (by simp) (by simp) (by simp) (by (simp;repeat' (first|exact a1n.mono (Nat.zero_le _)|(refine a0E.set' ?_ (by simp))))) ?_
  intro st' k6 k4 ki he
  have kv:=he.1 (2,6)
  have k4':=he.1 (0,4)
  simp at kv k4'
  simp [k6,k4,kv,k4',ki,a3P,a1j,a0y]
 ·simp [s40,h1,h2,hm]
  simp [a1j,a0y]
theorem b7N {F:CT} (d:a0k) (keep:List Int) (hd:a1N d=true) (hkl:keep.length<281474976710656) {Q:AEx->St->Prop} {st:St} (b v i b4:Id) (k5:st.s 5=.c (.pt v 0 0)) (k4:st.s 4=.c (.pt b4 0 0))
  (k2:st.s 2=.c (.pt b 0 0)) (kb:st.H b=a8j d) (hib:b≠i)
  (k1:st.s 1=.c (.sl .brw false (a0a keep))) (kv:b7M st.H v i d.safe) (k6:st.s 6=.c (.raw (.int .i64 0)))
  (hf:a0E st.H st.T)
  (hn:∀st',st'.s 5=.c (.pt v 0 0)->st'.s 4=.c (.pt b4 0 0)->st'.H i=.arr 9 1 false (a0a (a1O keep 0 d.safe d.wait))->a3f [i] st.H st.T st'.H st'.T->Q (.exit 0) st') :
  a2S Tryz.prog F (.loop b5H) Q st:=by
 obtain ⟨hd1,hd2,hd3,hd4,hd5⟩:=a95 hd
 obtain ⟨kv,ki,hvi⟩:=kv
 unfold a8j at kb
 refine a1E (fun n st'=>∃(j:Nat) (safe:List (List UInt8)),j<=d.wait.length/\n=d.wait.length-j/\safe.length=d.safe.length/\(∀s∈safe,s.length=32)/\st'.s 5=.c (.pt v 0 0)/\st'.s 4=.c (.pt b4 0 0)/\st'.s 2=.c (.pt b 0 0)/\
  st'.s 1=.c (.sl .brw false (a0a keep))/\st'.H i=.arr 9 1 false (a0a safe)/\st'.s 6=.c (.raw (.int .i64 j))/\a3f [i] st.H st.T st'.H st'.T/\
  a1O keep j safe (d.wait.drop j)=a1O keep 0 d.safe d.wait) d.wait.length ⟨0,d.safe,by simp [k6,k4,k1,ki,k5,k2,a3f.refl hf];exact hd4⟩ ?_
 rintro n st' ⟨j,safe,hj,rfl,hl,hs,k5,k4,k2,k1,ki,k6,he,hc⟩
 have hf':=he.fresh
 have kv:=he.arr kv (by simpa using hvi)
 have kb:=he.arr kb (by simpa using hib)
 obtain ⟨f4,f5,f6⟩:=hf'.arr kv
 obtain ⟨f7,f8,f9⟩:=hf'.arr ki
 obtain ⟨f1,f2,f3⟩:=hf'.arr kb
 have hfu:∀k d,st'.T<=k->st'.H (k,d)=.a0g:=hf'
 have hT:=he.2.2.1
 have hiv:(i=v)=False:=by simp only [eq_iff_iff,iff_false];exact fun e=>hvi e.symm
 by_cases hlt:j<d.wait.length
 ·have e2:IntKind.wrap .i64 ((j:Int)+1)=((j+1:Nat):Int):=by rw [a0d]<;>omega
  obtain ⟨w1,w2,w3⟩:=hd5 d.wait[j] (List.getElem_mem hlt)
  have w4:d.wait[j].at_.toNat<safe.length:=by omega
  have w5:d.wait[j].at_<safe.length:=by omega
  have w6:=hs safe[d.wait[j].at_.toNat] (List.getElem_mem w4)
  rw [List.drop_eq_getElem_cons hlt,a1O] at hc
  have hlen:(b1D safe d.wait[j] (a3n keep j)).length=d.safe.length:=by rw [a6W,hl]
  have b02:=c0q (k:=a3n keep j) hs w1 w2 w5
  by_cases hk:j<keep.length
  ·have t3:0<=keep[j]->keep[j].tmod 3=keep[j]%3:=fun h=>Int.tmod_eq_emod_of_nonneg h
   have kA:a3n keep j=if keep[j]<0 then 0 else keep[j]%3:=by rw [a3n,b6c hk]
   by_cases g:0<keep[j]
   ·by_cases g1:keep[j].tmod 3=1
    ·simp [b5H,k6,k4,k1,kv,ki,k5,k2,kb,hlt,e2,f4,f5,f7,f8,f1,f2,hfu,hk,w1,w2,w4,w3,hiv,w6,g,g1]
     refine ⟨d.wait.length-(j+1),by omega,j+1,by omega,rfl,_,hlen,b02,?_,rfl,?_,hc⟩
     ·rw [kA,if_neg (by omega),<-t3 (by omega),g1];simp [b1D,a4i]
     ·repeat' (first|exact he.tick (by first|omega|(simp<;>omega))|(refine a3f.new ?_ (by first|omega|(simp<;>omega)) (by first|omega|(simp<;>omega)))|(refine a3f.set ?_ (by simp) (by first|omega|(simp<;>omega))))
    ·by_cases g2:keep[j].tmod 3=2
     ·simp [b5H,k6,k4,k1,kv,ki,k5,k2,kb,hlt,e2,f4,f5,f7,f8,f1,f2,hfu,hk,w1,w2,w4,w3,hiv,w6,g,g1,g2]
      refine ⟨d.wait.length-(j+1),by omega,j+1,by omega,rfl,_,hlen,b02,?_,rfl,?_,hc⟩
      ·rw [kA,if_neg (by omega),<-t3 (by omega),g2];simp [b1D,a4i,w4,List.take_of_length_le (Nat.le_of_eq w6)]
      ·repeat' (first|exact he.tick (by first|omega|(simp<;>omega))|(refine a3f.new ?_ (by first|omega|(simp<;>omega)) (by first|omega|(simp<;>omega)))|(refine a3f.set ?_ (by simp) (by first|omega|(simp<;>omega))))
     ·simp [b5H,k6,k4,k1,kv,ki,k5,k2,kb,hlt,e2,f4,f5,f7,f8,f1,f2,hfu,hk,w1,w2,w4,w3,hiv,w6,g,g1,g2]
      refine ⟨d.wait.length-(j+1),by omega,j+1,by omega,rfl,_,hlen,b02,?_,rfl,?_,hc⟩
      ·rw [kA,if_neg (by omega),<-t3 (by omega)];simp [b1D,g1,g2]
      ·repeat' (first|exact he.tick (by first|omega|(simp<;>omega))|(refine a3f.new ?_ (by first|omega|(simp<;>omega)) (by first|omega|(simp<;>omega)))|(refine a3f.set ?_ (by simp) (by first|omega|(simp<;>omega))))
   ·simp [b5H,k6,k4,k1,kv,ki,k5,k2,kb,hlt,e2,f4,f5,f7,f8,f1,f2,hfu,hk,w1,w2,w4,w3,hiv,w6,g]
    refine ⟨d.wait.length-(j+1),by omega,j+1,by omega,rfl,_,hlen,b02,?_,rfl,?_,hc⟩
    ·have:(if keep[j]<0 then 0 else keep[j]%3)=0:=by split<;>omega
     rw [kA,this];simp [b1D]
    ·repeat' (first|exact he.tick (by first|omega|(simp<;>omega))|(refine a3f.new ?_ (by first|omega|(simp<;>omega)) (by first|omega|(simp<;>omega)))|(refine a3f.set ?_ (by simp) (by first|omega|(simp<;>omega))))
  ·have kA:a3n keep j=0:=by simp [a3n,List.getD,hk]
   simp [b5H,k6,k4,k1,kv,ki,k5,k2,kb,hlt,e2,f4,f5,f7,f8,f1,f2,hfu,hk,w1,w2,w4,w3,hiv,w6]
   refine ⟨d.wait.length-(j+1),by omega,j+1,by omega,rfl,_,hlen,b02,?_,rfl,?_,hc⟩
   ·rw [kA];simp [b1D]
   ·repeat' (first|exact he.tick (by first|omega|(simp<;>omega))|(refine a3f.new ?_ (by first|omega|(simp<;>omega)) (by first|omega|(simp<;>omega)))|(refine a3f.set ?_ (by simp) (by first|omega|(simp<;>omega))))
 ·have:j=d.wait.length:=by omega
  subst this
  simp [b5H,k6,k1,kv,ki,k5,k2,kb,hlt]
  rw [List.drop_length,a1O] at hc
  exact hn _ (by simp [k5]) (by simp [k4]) (by rw [<-hc];simpa using ki) (he.tick (by simp))
theorem b7O (d:a0k) (keep:List Int) (hm:a1N d=true) (h3:keep.length<281474976710656) :
  PEv Tryz.prog 93 [Arg.enc d,.c (.sl .brw false (a0a keep))] (.g (a0y ⟨a1O keep 0 d.safe d.wait,[]⟩)):=by
 obtain ⟨hd1,hd2,hd3,hd4,hd5⟩:=a95 hm
 have h1:d.safe.length<1000000:=by omega
 refine a0f mixed a7D Tryz.func93 f7i f7j (by kernel_rfl) (by simp [a0y]) (by simp) ?_
 simp [s93,h1]
 refine b7N d keep hm h3 (0,2) (1,5) (1,12288) (0,4) (by simp) (by simp) (by simp) (by simp [a8j]) (by simp) (by simp) ⟨by simp,by simp,by simp⟩ (by simp) (by (simp;repeat' (first|exact a1n.mono (Nat.zero_le _)|(refine a0E.set' ?_ (by simp))))) ?_
 intro st' k5 k4 ki he
 have kv:=he.1 (1,5)
 have k4':=he.1 (0,4)
 simp at kv k4'
 simp [k5,k4,kv,k4',ki,a3P,a0y]
theorem c1B {F:CT} (d:a0k) (hd:a1N d=true) {Q:AEx->St->Prop} {st:St} (b v i b4:Id) (k3:st.s 3=.c (.pt v 0 0)) (k2:st.s 2=.c (.pt b4 0 0))
  (k1:st.s 1=.c (.pt b 0 0)) (kb:st.H b=a8j d) (hib:b≠i) (kv:b7M st.H v i d.safe) (k4:st.s 4=.c (.raw (.int .i64 0)))
  (hf:a0E st.H st.T)
  (hn:∀st',st'.s 3=.c (.pt v 0 0)->st'.s 2=.c (.pt b4 0 0)->st'.H i=.arr 9 1 false (a0a (a39 d.safe d.wait))->a3f [i] st.H st.T st'.H st'.T->Q (.exit 0) st') :
  a2S Tryz.prog F (.loop c6J) Q st:=by
 obtain ⟨hd1,hd2,hd3,hd4,hd5⟩:=a95 hd
 obtain ⟨kv,ki,hvi⟩:=kv
 unfold a8j at kb
 refine a1E (fun n st'=>∃(j:Nat) (safe:List (List UInt8)),j<=d.wait.length/\n=d.wait.length-j/\safe.length=d.safe.length/\st'.s 3=.c (.pt v 0 0)/\st'.s 2=.c (.pt b4 0 0)/\st'.s 1=.c (.pt b 0 0)/\
  st'.H i=.arr 9 1 false (a0a safe)/\st'.s 4=.c (.raw (.int .i64 j))/\a3f [i] st.H st.T st'.H st'.T/\
  a39 safe (d.wait.drop j)=a39 d.safe d.wait) d.wait.length ⟨0,d.safe,by simp [k4,k3,k2,k1,ki,a3f.refl hf]⟩ ?_
 rintro n st' ⟨j,safe,hj,rfl,hl,k3,k2,k1,ki,k4,he,hc⟩
 have hf':=he.fresh
 have kv:=he.arr kv (by simpa using hvi)
 have kb:=he.arr kb (by simpa using hib)
 obtain ⟨f7,f8,f9⟩:=hf'.arr ki
 by_cases hlt:j<d.wait.length
 ·have e2:IntKind.wrap .i64 ((j:Int)+1)=((j+1:Nat):Int):=by rw [a0d]<;>omega
  obtain ⟨w1,w2,w3⟩:=hd5 d.wait[j] (List.getElem_mem hlt)
  have w4:d.wait[j].at_.toNat<safe.length:=by omega
  rw [List.drop_eq_getElem_cons hlt,a39] at hc
  simp [c6J,k4,k3,k2,k1,kv,ki,kb,hlt,e2,w2,w3,w4]
  refine ⟨d.wait.length-(j+1),by omega,j+1,by omega,rfl,_,by rw [List.length_set,hl],a4i.symm,rfl,?_,hc⟩
  repeat' (first|exact he.tick (by first|omega|(simp<;>omega))|(refine a3f.new ?_ (by first|omega|(simp<;>omega)) (by first|omega|(simp<;>omega)))|(refine a3f.set ?_ (by simp) (by first|omega|(simp<;>omega))))
 ·have:j=d.wait.length:=by omega
  subst this
  simp [c6J,k4,k3,k2,k1,kv,ki,kb,hlt]
  rw [List.drop_length,a39] at hc
  exact hn _ (by simp [k3]) (by simp [k2]) (by rw [<-hc];simpa using ki) (he.tick (by simp))
theorem a7F:∀(l:List a4M) (safe:List (List UInt8)),(a39 safe l).length=safe.length
 |[],_=>rfl
 |w::r,safe=>by rw [a39,a7F,List.length_set]
theorem b1E (d:a0k) (hm:a1N d=true):PEv Tryz.prog 71 [Arg.enc d] (.g (a0y ⟨a39 d.safe d.wait,[]⟩)):=by
 obtain ⟨hd1,hd2,hd3,hd4,hd5⟩:=a95 hm
 have h1:d.safe.length<1000000:=by omega
 refine a0f mixed a7D Tryz.func71 f6M f6N (by kernel_rfl) (by simp [a0y]) (by simp) ?_
 simp [s71,h1]
 refine c1B d hm (0,1) (1,3) (1,8192) (0,2) (by simp) (by simp) (by simp) (by simp [a8j]) (by simp) ⟨by simp,by simp,by simp⟩ (by simp) (by (simp;repeat' (first|exact a1n.mono (Nat.zero_le _)|(refine a0E.set' ?_ (by simp))))) ?_
 intro st' k3 k2 ki he
 have kv:=he.1 (1,3)
 have k4':=he.1 (0,2)
 simp at kv k4'
 simp [k3,k2,kv,k4',ki,a7F,a0y]
open Go Go.Proofs
theorem a8k {n:Int} (h0:0<=n) (h1:n<4294967296):(((n%2^IntKind.u64.bits).toNat &&&4294967295%2^IntKind.u64.bits:Nat):Int)=n:=by
 obtain ⟨k,rfl⟩:=Int.eq_ofNat_of_zero_le h0
 have e:((k:Int)%2^IntKind.u64.bits).toNat=k:=by
  show ((k:Int)%18446744073709551616).toNat=k
  omega
 have e2:(4294967295%2^IntKind.u64.bits:Nat)=2^32-1:=rfl
 rw [e,e2,Nat.and_two_pow_sub_one_eq_mod]
 omega
theorem f3c:(2:Int)^min 32 IntKind.u64.bits=4294967296:=rfl
theorem c7B {F:CT} (hF:a1k Tryz.prog F) (a b:Int) (ha0:0<=a) (ha:a<4294967296) (hb0:0<=b) (hb:b<4294967296) (hm:a*b<4294967296) :
  PEv Tryz.prog 178 [.c (.raw (.int .u64 a)),.c (.raw (.int .u64 b))] (.t [(false,[.raw (.int .u64 0)]),(false,[.raw (.int .u64 (a*b))])]):=by
 refine a0f mixed hF Tryz.func178 e63 e64 (by kernel_rfl) (by simp) (by simp) ?_
 have hm0:0<=a*b:=Int.mul_nonneg ha0 hb0
 have e1:a.fdiv 4294967296=0:=by rw [Int.fdiv_eq_ediv_of_nonneg _ (by omega)];exact Int.ediv_eq_zero_of_lt ha0 (by omega)
 have e2:b.fdiv 4294967296=0:=by rw [Int.fdiv_eq_ediv_of_nonneg _ (by omega)];exact Int.ediv_eq_zero_of_lt hb0 (by omega)
 have e3:(a*b).fdiv 4294967296=0:=by rw [Int.fdiv_eq_ediv_of_nonneg _ (by omega)];exact Int.ediv_eq_zero_of_lt hm0 (by omega)
 have m1:=a8k ha0 (by omega)
 have m2:=a8k hb0 (by omega)
 have w1:IntKind.wrap .u64 a=a:=a4O ha0 (by omega)
 have w2:IntKind.wrap .u64 b=b:=a4O hb0 (by omega)
 have w3:IntKind.wrap .u64 (a*b)=a*b:=a4O hm0 (by omega)
 have w0:IntKind.wrap .u64 0=0:=a4O (by omega) (by omega)
 have m0:=a8k (n:=0) (by omega) (by omega)
 simp [e62,d5J,f3c,m1,m2,m0,w1,w2,w3,w0,e1,e2,e3]
theorem c84 (a b:Int) (ha0:0<=a) (ha:a<4294967296) (hb0:0<=b) (hb:b<4294967296) (hm:a*b<4294967296) :
  PEv Tryz.prog 137 [.c (.raw (.int .u64 a)),.c (.raw (.int .u64 b))] (.t [(false,[.raw (.int .u64 0)]),(false,[.raw (.int .u64 (a*b))])]):=by
 refine a0f mixed a7D Tryz.func137 e6R e6S (by kernel_rfl) (by simp) (by simp) ?_
 simp [e6Q]
 refine a0R (c7B a7D a b ha0 ha hb0 hb hm) (by simp) (by simp) (by simp) ?_
 simp
section
variable {α:Type} [Enc α]
end
theorem d01 {F:CT} (a:Int) (n:Nat) {Q:AEx->St->Prop} {st:St} (id:Id) (hn1:1<=n) (hn2:n<1000000) (k7:st.s 7=.c (.so id 0 n)) (k8:st.s 8=.c (.raw (.int .i64 1)))
  (kid:st.H id=.arr 3 1 false (a0a [a]++List.replicate (n-1) [.raw (.int .i64 0)])) (hn:∀st',st'.s 7=.c (.so id 0 n)->st'.H id=.arr 3 1 false (a0a (List.replicate n a))->Q (.exit 0) st') :
  a2S Tryz.prog F (.loop b5J) Q st:=by
 refine a1E (fun m st=>∃j:Nat,1<=j/\j<=n/\m=n-j/\st.s 7=.c (.so id 0 n)/\st.s 8=.c (.raw (.int .i64 j))/\st.H id=.arr 3 1 false (a0a (List.replicate j a)++List.replicate (n-j) [.raw (.int .i64 0)])) (n-1)
  ⟨1,by omega,by omega,rfl,k7,by simpa using k8,by simpa using kid⟩ ?_
 rintro m st ⟨j,h1,h2,rfl,k7,k8,kid⟩
 by_cases hlt:j<n
 ·have e1:IntKind.wrap .i64 ((j:Int)+((min (n-j) j:Nat):Int))=((j+min (n-j) j:Nat):Int):=by rw [a0d]<;>omega
  simp [b5J,k7,k8,kid,hlt]
  refine ⟨h2,n-(j+min (n-j) j),by omega,j+min (n-j) j,by omega,by omega,rfl,e1,?_⟩
  have t1:List.take (n-j) (a0a (List.replicate j a))=a0a (List.replicate (min (n-j) j) a):=by rw [a8c,List.take_replicate]
  have t2:List.drop (j+min (n-j) j) (a0a (List.replicate j a)++List.replicate (n-j) [AC.raw (Value.int IntKind.i64 0)])=List.replicate (n-(j+min (n-j) j)) [AC.raw (Value.int IntKind.i64 0)]:=by
   rw [List.drop_append,List.drop_eq_nil_of_le (by simp),List.nil_append,List.drop_replicate]
   congr 1;simp;omega
  rw [t1,t2,<-List.append_assoc,<-a1l,List.replicate_append_replicate]
 ·have:j=n:=by omega
  subst this
  simp [b5J,k7,k8,kid,hlt]
  exact hn _ (by simp [k7]) (by simpa using kid)
theorem d02 (a:Int) (n:Int) (h0:0<=n) (h1:n<1000000) :
  PEv Tryz.prog 111 [.c (.sl .brw false (a0a [a])),.c (.raw (.int .i64 n))] (.c (.nw 3 1 (a0a (List.replicate n.toNat a)))):=by
 refine a0f mixed a7D Tryz.func111 e6u e6v (by kernel_rfl) (by simp) (by simp) ?_
 have w1:IntKind.wrap .u64 1=1:=a4O (by omega) (by omega)
 have w2:IntKind.wrap .u64 n=n:=a4O h0 (by omega)
 have w3:IntKind.wrap .i64 n=n:=a0d (by omega) (by omega)
 have n0:¬n<0:=by omega
 simp [e6t,n0,w1,w2]
 refine a0R (c84 1 n (by omega) (by omega) h0 (by omega) (by omega)) (by simp) (by simp) (by simp) ?_
 simp [n0,w1,w2,w3,show n<=9223372036854775807 by omega,show ¬9223372036854775807<n by omega,h0]
 by_cases hz:n=0
 ·subst hz
  simp
  refine a1E (fun m st=>st.s 7=.c (.so (4,30) 0 0)/\st.s 8=.c (.raw (.int .i64 0))/\st.H (4,30)=.arr 3 1 false []) 0 (by simp) ?_
  rintro m st ⟨k7,k8,kH⟩
  simp [b5J,k7,k8,kH]
 ·obtain ⟨k,rfl⟩:∃k:Nat,n=(k:Int):=⟨n.toNat,by omega⟩
  have hk:1<=k:=by omega
  have e1:min k 1=1:=by omega
  refine ⟨by omega,d01 a k (4,30) hk (by omega) (by simp) (by simp [e1]) ?_ ?_⟩
  ·simp [e1]
   rw [List.take_of_length_le (by simp;omega)]
  ·intro st' k7 kH
   simp [k7,kH]
theorem d03 {F:CT} (a:List UInt8) (n:Nat) {Q:AEx->St->Prop} {st:St} (id:Id) (hn1:1<=n) (hn2:n<1000000) (k7:st.s 7=.c (.so id 0 n)) (k8:st.s 8=.c (.raw (.int .i64 1)))
  (kid:st.H id=.arr 9 1 false (a0a [a]++List.replicate (n-1) [.str []])) (hn:∀st',st'.s 7=.c (.so id 0 n)->st'.H id=.arr 9 1 false (a0a (List.replicate n a))->Q (.exit 0) st') :
  a2S Tryz.prog F (.loop c25) Q st:=by
 refine a1E (fun m st=>∃j:Nat,1<=j/\j<=n/\m=n-j/\st.s 7=.c (.so id 0 n)/\st.s 8=.c (.raw (.int .i64 j))/\st.H id=.arr 9 1 false (a0a (List.replicate j a)++List.replicate (n-j) [.str []])) (n-1)
  ⟨1,by omega,by omega,rfl,k7,by simpa using k8,by simpa using kid⟩ ?_
 rintro m st ⟨j,h1,h2,rfl,k7,k8,kid⟩
 by_cases hlt:j<n
 ·have e1:IntKind.wrap .i64 ((j:Int)+((min (n-j) j:Nat):Int))=((j+min (n-j) j:Nat):Int):=by rw [a0d]<;>omega
  simp [c25,k7,k8,kid,hlt]
  refine ⟨h2,n-(j+min (n-j) j),by omega,j+min (n-j) j,by omega,by omega,rfl,e1,?_⟩
  have t1:List.take (n-j) (a0a (List.replicate j a))=a0a (List.replicate (min (n-j) j) a):=by rw [a8c,List.take_replicate]
  have t2:List.drop (j+min (n-j) j) (a0a (List.replicate j a)++List.replicate (n-j) [AC.str []])=List.replicate (n-(j+min (n-j) j)) [AC.str []]:=by
   rw [List.drop_append,List.drop_eq_nil_of_le (by simp),List.nil_append,List.drop_replicate]
   congr 1;simp;omega
  rw [t1,t2,<-List.append_assoc,<-a1l,List.replicate_append_replicate]
 ·have:j=n:=by omega
  subst this
  simp [c25,k7,k8,kid,hlt]
  exact hn _ (by simp [k7]) (by simpa using kid)
theorem d04 (a:List UInt8) (n:Int) (h0:0<=n) (h1:n<1000000) :
  PEv Tryz.prog 81 [.c (.sl .brw false (a0a [a])),.c (.raw (.int .i64 n))] (.c (.nw 9 1 (a0a (List.replicate n.toNat a)))):=by
 refine a0f mixed a7D Tryz.func81 f6U f6V (by kernel_rfl) (by simp) (by simp) ?_
 have w1:IntKind.wrap .u64 1=1:=a4O (by omega) (by omega)
 have w2:IntKind.wrap .u64 n=n:=a4O h0 (by omega)
 have w3:IntKind.wrap .i64 n=n:=a0d (by omega) (by omega)
 have n0:¬n<0:=by omega
 simp [s81,n0,w1,w2]
 refine a0R (c84 1 n (by omega) (by omega) h0 (by omega) (by omega)) (by simp) (by simp) (by simp) ?_
 simp [n0,w1,w2,w3,show n<=9223372036854775807 by omega,show ¬9223372036854775807<n by omega,h0]
 by_cases hz:n=0
 ·subst hz
  simp
  refine a1E (fun m st=>st.s 7=.c (.so (4,30) 0 0)/\st.s 8=.c (.raw (.int .i64 0))/\st.H (4,30)=.arr 9 1 false []) 0 (by simp) ?_
  rintro m st ⟨k7,k8,kH⟩
  simp [c25,k7,k8,kH]
 ·obtain ⟨k,rfl⟩:∃k:Nat,n=(k:Int):=⟨n.toNat,by omega⟩
  have hk:1<=k:=by omega
  have e1:min k 1=1:=by omega
  refine ⟨by omega,d03 a k (4,30) hk (by omega) (by simp) (by simp [e1]) ?_ ?_⟩
  ·simp [e1]
   rw [List.take_of_length_le (by simp;omega)]
  ·intro st' k7 kH
   simp [k7,kH]
open Go Go.Proofs
theorem b6e (s:List UInt8) (n:Nat) (h:s.length*n<=140737488355328) (hn:n<=1000000):PEv Tryz.prog 138 [.c (.str s),.c (.raw (.int .i64 n))] (.c (.str (Lib.repeatL s n))):=by
 refine b7B (by kernel_rfl) (by simp) fun w hI F vs hs hr=>?_
 have h0:=a14 (a0D (hr 0 _ rfl))
 have h1:=a0N (a0D (hr 1 _ rfl))
 rw [vs2 hs h0 h1]
 exact Any.strings_Repeat lays105 b2P ⟨s.toArray⟩ n w (by omega) (by simpa [ByteArray.size] using h)
theorem a8l:PEv Tryz.prog 82 [] (.c (.str blank)):=by
 refine a0f mixed a7D Tryz.func82 f6W f6X (by kernel_rfl) (by simp) (by simp) ?_
 simp [s82]
 refine a0R (b6e [0] 32 (by simp) (by omega)) (by simp) (by simp) (by simp) ?_
 simp [blank]
 decide
end Go.AE
