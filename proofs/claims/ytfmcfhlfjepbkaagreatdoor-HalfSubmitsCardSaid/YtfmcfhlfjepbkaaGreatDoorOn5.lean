/- disk.Blank. -/
import Derived.Test.YtfmcfhlfjepbkaaGreatDoorOn3
import Derived.Test.YtfmcfhlfjepbkaaGreatDoorOn4
import Derived.Shelf.Strings.Repeat
import Derived.KernelRfl
import Derived.Test.YtfmcfhlfjepbkaaGreatDoorProg
import Derived.WalkKit
import Derived.BigCall
import Derived.Shelf.Strings.FuncGrows
import Derived.Shelf.Utf8.RuneCount
set_option linter.unusedVariables false
set_option linter.unusedSimpArgs false
set_option maxRecDepth 1000000
set_option maxHeartbeats 4000000
namespace Go.AE
open Go
variable {P:Program} {F:CT} {st:St}
def mI (l:List (List Int×Int)):List (List Int×AC):=l.map fun q=>(q.1,.raw (.int .i64 q.2))
def lk (l:List (List Int×Int)) (k:List Int):Option Int:=(l.find? fun q=>q.1==k).map (·.2)
def pt (l:List (List Int×Int)) (k:List Int) (n:Int):List (List Int×Int):=
 match l.findIdx? fun q=>q.1==k with
 |some i=>l.set i (k,n)
 |none=>l++[(k,n)]
@[simp] theorem f2B:mI []=[]:=(rfl)
@[simp] theorem e6f {l:List (List Int×Int)} {k:List Int}:b4E (mI l) k=(lk l k).map fun n=>.raw (.int .i64 n):=by
 induction l with
 |nil=>rfl
 |cons a r ih=>
  simp only [b4E,mI,lk,List.map_cons,List.find?_cons] at ih ⊢
  cases a.1==k<;>simp_all
@[simp] theorem e6g {l:List (List Int×Int)} {k:List Int} {n:Int}:c5m (mI l) k (.raw (.int .i64 n))=mI (pt l k n):=by
 have:c7z (mI l) k=l.findIdx? fun q=>q.1==k:=by
  unfold c7z mI
  rw [List.findIdx?_map];rfl
 unfold c5m pt
 rw [this]
 cases l.findIdx? fun q=>q.1==k with
 |none=>simp [mI]
 |some i=>simp [mI,List.map_set]
@[simp] theorem d5a {l:List (List Int×Int)}:(∀q∈mI l,a2f q.2)=True:=by
 simp only [mI,List.mem_map,eq_iff_iff,iff_true]
 rintro q ⟨a,_,rfl⟩
 exact .raw _
@[simp] theorem e6h {l:List (List Int×Int)}:(∀(a:List Int) (b:AC),(a,b)∈mI l->a2f b)=True:=by
 simp only [eq_iff_iff,iff_true]
 intro a b h
 have:=d5a (l:=l)
 rw [eq_iff_iff,iff_true] at this
 exact this _ h
section
variable {hp r:List HO} {pm:PM} {K:PM->Prop} {H:Heap} {i j:Id} {m:List (Id×Option Id)} {g:Id->Id}
@[simp] theorem f2C {ag:Nat} {es:List (List Int×AC)}:a2n (.map i ag es::r) j=if j=i then .mp ag es else a2n r j:=(rfl)
@[simp] theorem f5s:mC H (.mr i) (.mr j) pm K=bd i (some j) pm K:=by simp [mC]
def atM (H:Heap) (ag:Nat) (es:List (List Int×AC)) (K:Prop):Option (Option Id)->Prop
 |some (some j)=>(H j=.mp ag es/\∀q∈es,a2f q.2)/\K
 |_=>False
@[simp] theorem f8t {ag:Nat} {es:List (List Int×AC)}:mO H (.map i ag es) pm K=atM H ag es (K pm) (a1u pm.m i):=by
 simp only [mO];split<;>simp_all [atM]
@[simp] theorem f5t {ag:Nat} {es:List (List Int×AC)} {K:Prop}:atM H ag es K (some (some j))=((H j=.mp ag es/\∀q∈es,a2f q.2)/\K):=(rfl)
@[simp] theorem e06 {args:List AV} {k:Nat}:(a9L args hp).s k=args.getD k (.c (.raw undef)):=(rfl)
@[simp] theorem e07 {args:List AV}:(a9L args hp).H=a2n hp:=(rfl)
@[simp] theorem e08 {args:List AV}:(a9L args hp).T=1:=(rfl)
@[simp] theorem e09 {fn:Func} {ret:AV}:e6e P fn ret hp .ret st=∃res,c0h P st fn.results.toList=some res/\mV st.H ret res ⟨c5b hp,[]⟩ fun pm=>mHo st.H hp pm fun pm=>d1c hp pm/\pmA pm.m:=by simp [e6e]
@[simp] theorem f5u:mAs H [] [] pm K=K pm:=(rfl)
@[simp] theorem f5v {x y:AV} {l l':List AV}:mAs H (x::l) (y::l') pm K=mV H x y pm fun pm=>mAs H l l' pm K:=(rfl)
@[simp] theorem e6i:a6N [] H=H:=(rfl)
@[simp] theorem e6j:a6N ((i,some j)::m) H=hset (a6N m H) j .dead:=(rfl)
@[simp] theorem f2D:c1x g [] H=H:=(rfl)
@[simp] theorem f2E {o:HO}:c1x g (o::r) H=hset (c1x g r H) (g o.id) (o.ren g):=(rfl)
@[simp] theorem f5w {nm:Nat->Id}:gV m nm i=if i.1=0 then ((a1u m i).getD none).getD i else nm i.2:=(rfl)
@[simp] theorem f5x:pmS []=True:=(rfl)
@[simp] theorem f5y {o:Option Id}:pmS ((i,o)::m)=(o.isSome=true/\pmS m):=(rfl)
@[simp] theorem e1a:a5u []=[]:=(rfl)
@[simp] theorem e1b {o:HO}:a5u (o::r)=if o.id.1=0 then a5u r else o.id.2::a5u r:=(rfl)
@[simp] theorem f2F {nm:Nat->Id}:e05 H nm []=True:=(rfl)
@[simp] theorem e6k {v:Value}:AC.ren g (.raw v)=.raw v:=(rfl)
@[simp] theorem f2G {a b:Nat}:AC.ren g (.pt i a b)=.pt (g i) a b:=(rfl)
@[simp] theorem f2H:AC.ren g (.mr i)=.mr (g i):=(rfl)
@[simp] theorem f2I {c:AC}:AV.ren g (.c c)=.c (c.ren g):=(rfl)
@[simp] theorem f2J {e:Nat} {c:List AC}:HO.ren g (.var i e c)=.arr e c.length false [c.map (AC.ren g)]:=(rfl)
@[simp] theorem f2K {ag:Nat} {es:List (List Int×AC)}:HO.ren g (.map i ag es)=.mp ag es:=(rfl)
@[simp] theorem e6l {v:Value}:nmC hp (.raw v)=True:=(rfl)
@[simp] theorem f2L {a b:Nat}:nmC hp (.pt i a b)=b5z hp i:=(rfl)
@[simp] theorem f2M:nmC hp (.mr i)=b5z hp i:=(rfl)
@[simp] theorem f2N:d1f hp []=True:=(rfl)
@[simp] theorem f2O {o:HO}:d1f hp (o::r)=(o.ok hp/\d1f hp r):=(rfl)
@[simp] theorem f8u {e:Nat} {c:List AC}:HO.ok hp (.var i e c)=∀x∈c,nmC hp x:=(rfl)
@[simp] theorem f8v {ag:Nat} {es:List (List Int×AC)}:HO.ok hp (.map i ag es)=∀q∈es,a2f q.2:=(rfl)
@[simp] theorem f2P {a b:Nat}:AC.one H (.pt i a b)=(H i).live:=(rfl)
@[simp] theorem f2Q:AC.one H (.mr i)=(H i).live:=(rfl)
@[simp] theorem e6m {ag:Nat} {es:List (List Int×AC)}:OK.live (.mp ag es)=true:=(rfl)
end
attribute [simp] takes mOk eqM eqH
open Go Go.Proofs
def kf3:List Nat:=[1000195]
def e1c:SC:=(⟨_,by cbv⟩:{x//slB kf3 Tryz.f3.body [] 0=x}).1
def e1d:SC:=(⟨_,fun a=>by cbv⟩:{x:SC->SC//∀a,slB kf3 Tryz.f3.body [a] 1=x a}).1 e1c
def f2R:SC:=(⟨_,fun a b=>by cbv⟩:{x:SC->SC->SC//∀a b,slB kf3 Tryz.f3.body [a,b] 2=x a b}).1 e1c e1d
def s3:SC:=(⟨_,fun a b c=>by cbv⟩:{x:SC->SC->SC->SC//∀a b c,slW kf3 Tryz.f3.body [a,b,c]=x a b c}).1 e1c e1d f2R
theorem sl3:a0o Tryz.f3.body s3=some (unK s3,true):=by kernel_rfl
theorem ok3:a0I a0m Tryz.f3 0=true:=by kernel_rfl
def s4:SC:=(⟨_,by cbv⟩:{x//slW kf3 Tryz.f4.body []=x}).1
theorem sl4:a0o Tryz.f4.body s4=some (unK s4,true):=by kernel_rfl
theorem ok4:a0I a0m Tryz.f4 0=true:=by kernel_rfl
def f5z:SC:=(⟨_,by cbv⟩:{x//slB kf3 Tryz.f5.body [] 0=x}).1
def s5:SC:=(⟨_,fun a=>by cbv⟩:{x:SC->SC//∀a,slW kf3 Tryz.f5.body [a]=x a}).1 f5z
theorem ok5:a0I a0m Tryz.f5 0=true:=by kernel_rfl
def f5A:SC:=(⟨_,by cbv⟩:{x//slB kf3 Tryz.f6.body [] 0=x}).1
def s6:SC:=(⟨_,fun a=>by cbv⟩:{x:SC->SC//∀a,slW kf3 Tryz.f6.body [a]=x a}).1 f5A
theorem ok6:a0I a0m Tryz.f6 0=true:=by kernel_rfl
def e6n:SC:=(⟨_,by cbv⟩:{x//slB kf3 Tryz.f8.body [] 0=x}).1
def f2S:SC:=(⟨_,fun a=>by cbv⟩:{x:SC->SC//∀a,slB kf3 Tryz.f8.body [a] 1=x a}).1 e6n
def s8:SC:=(⟨_,fun a b=>by cbv⟩:{x:SC->SC->SC//∀a b,slW kf3 Tryz.f8.body [a,b]=x a b}).1 e6n f2S
theorem sl8:a0o Tryz.f8.body s8=some (unK s8,true):=by kernel_rfl
theorem ok8:a0I a0m Tryz.f8 0=true:=by kernel_rfl
def s9:SC:=(⟨_,by cbv⟩:{x//slW kf3 Tryz.f9.body []=x}).1
theorem sl9:a0o Tryz.f9.body s9=some (unK s9,true):=by kernel_rfl
theorem ok9:a0I a0m Tryz.f9 0=true:=by kernel_rfl
def c6n:SC:=(⟨_,by cbv⟩:{x//slB kf3 Tryz.f15.body [] 0=x}).1
def s15:SC:=(⟨_,fun a=>by cbv⟩:{x:SC->SC//∀a,slW kf3 Tryz.f15.body [a]=x a}).1 c6n
theorem f5B:a0o Tryz.f15.body s15=some (unK s15,true):=by kernel_rfl
theorem f5C:a0I a0m Tryz.f15 0=true:=by kernel_rfl
def c6o:SC:=(⟨_,by cbv⟩:{x//slB kf3 Tryz.f16.body [] 0=x}).1
def s16:SC:=(⟨_,fun a=>by cbv⟩:{x:SC->SC//∀a,slW kf3 Tryz.f16.body [a]=x a}).1 c6o
theorem f5D:a0o Tryz.f16.body s16=some (unK s16,true):=by kernel_rfl
theorem ok16:a0I a0m Tryz.f16 0=true:=by kernel_rfl
def s18:SC:=(⟨_,by cbv⟩:{x//slW kf3 Tryz.f18.body []=x}).1
theorem f5E:a0o Tryz.f18.body s18=some (unK s18,true):=by kernel_rfl
theorem f5F:a0I a0m Tryz.f18 0=true:=by kernel_rfl
def s19:SC:=(⟨_,by cbv⟩:{x//slW kf3 Tryz.f19.body []=x}).1
theorem f5G:a0o Tryz.f19.body s19=some (unK s19,true):=by kernel_rfl
theorem f5H:a0I a0m Tryz.f19 0=true:=by kernel_rfl
def a2R:SC:=(⟨_,by cbv⟩:{x//slB kf3 Tryz.f23.body [] 0=x}).1
def s23:SC:=(⟨_,fun a=>by cbv⟩:{x:SC->SC//∀a,slW kf3 Tryz.f23.body [a]=x a}).1 a2R
theorem f5I:a0o Tryz.f23.body s23=some (unK s23,true):=by kernel_rfl
theorem f5J:a0I a0m Tryz.f23 0=true:=by kernel_rfl
def s26:SC:=(⟨_,by cbv⟩:{x//slW kf3 Tryz.f26.body []=x}).1
theorem f5K:a0o Tryz.f26.body s26=some (unK s26,true):=by kernel_rfl
theorem f5L:a0I a0m Tryz.f26 0=true:=by kernel_rfl
def c0z:SC:=(⟨_,by cbv⟩:{x//slB kf3 Tryz.f27.body [] 0=x}).1
def s27:SC:=(⟨_,fun a=>by cbv⟩:{x:SC->SC//∀a,slW kf3 Tryz.f27.body [a]=x a}).1 c0z
theorem sl27:a0o Tryz.f27.body s27=some (unK s27,true):=by kernel_rfl
theorem f5M:a0I a0m Tryz.f27 0=true:=by kernel_rfl
def s32:SC:=(⟨_,by cbv⟩:{x//slW kf3 Tryz.f32.body []=x}).1
theorem f5N:a0o Tryz.f32.body s32=some (unK s32,true):=by kernel_rfl
theorem ok32:a0I a0m Tryz.f32 0=true:=by kernel_rfl
def s39:SC:=(⟨_,by cbv⟩:{x//slW kf3 Tryz.f39.body []=x}).1
theorem f5O:a0o Tryz.f39.body s39=some (unK s39,true):=by kernel_rfl
theorem f5P:a0I a0m Tryz.f39 0=true:=by kernel_rfl
def d5b:SC:=(⟨_,by cbv⟩:{x//slB kf3 Tryz.f41.body [] 0=x}).1
def s41:SC:=(⟨_,fun a=>by cbv⟩:{x:SC->SC//∀a,slW kf3 Tryz.f41.body [a]=x a}).1 d5b
theorem f5Q:a0o Tryz.f41.body s41=some (unK s41,true):=by kernel_rfl
theorem f5R:a0I a0m Tryz.f41 0=true:=by kernel_rfl
def s42:SC:=(⟨_,by cbv⟩:{x//slW kf3 Tryz.f42.body []=x}).1
theorem f5S:a0o Tryz.f42.body s42=some (unK s42,true):=by kernel_rfl
theorem f5T:a0I a0m Tryz.f42 0=true:=by kernel_rfl
def b2k:SC:=(⟨_,by cbv⟩:{x//slB kf3 Tryz.f49.body [] 0=x}).1
def s49:SC:=(⟨_,fun a=>by cbv⟩:{x:SC->SC//∀a,slW kf3 Tryz.f49.body [a]=x a}).1 b2k
theorem f5U:a0o Tryz.f49.body s49=some (unK s49,true):=by kernel_rfl
theorem f5V:a0I a0m Tryz.f49 0=true:=by kernel_rfl
def s53:SC:=(⟨_,by cbv⟩:{x//slW kf3 Tryz.f53.body []=x}).1
theorem f5W:a0o Tryz.f53.body s53=some (unK s53,true):=by kernel_rfl
theorem f5X:a0I a0m Tryz.f53 0=true:=by kernel_rfl
def s54:SC:=(⟨_,by cbv⟩:{x//slW kf3 Tryz.f54.body []=x}).1
theorem f5Y:a0o Tryz.f54.body s54=some (unK s54,true):=by kernel_rfl
theorem f5Z:a0I a0m Tryz.f54 0=true:=by kernel_rfl
def s55:SC:=(⟨_,by cbv⟩:{x//slW kf3 Tryz.f55.body []=x}).1
theorem f6a:a0o Tryz.f55.body s55=some (unK s55,true):=by kernel_rfl
theorem f6b:a0I a0m Tryz.f55 0=true:=by kernel_rfl
def s56:SC:=(⟨_,by cbv⟩:{x//slW kf3 Tryz.f56.body []=x}).1
theorem f6c:a0o Tryz.f56.body s56=some (unK s56,true):=by kernel_rfl
theorem f6d:a0I a0m Tryz.f56 0=true:=by kernel_rfl
def s57:SC:=(⟨_,by cbv⟩:{x//slW kf3 Tryz.f57.body []=x}).1
theorem f6e:a0o Tryz.f57.body s57=some (unK s57,true):=by kernel_rfl
theorem f6f:a0I a0m Tryz.f57 0=true:=by kernel_rfl
def s58:SC:=(⟨_,by cbv⟩:{x//slW kf3 Tryz.f58.body []=x}).1
theorem f6g:a0o Tryz.f58.body s58=some (unK s58,true):=by kernel_rfl
theorem f6h:a0I a0m Tryz.f58 0=true:=by kernel_rfl
def s60:SC:=(⟨_,by cbv⟩:{x//slW kf3 Tryz.f60.body []=x}).1
theorem f6i:a0o Tryz.f60.body s60=some (unK s60,true):=by kernel_rfl
theorem f6j:a0I a0m Tryz.f60 0=true:=by kernel_rfl
def c0A:SC:=(⟨_,by cbv⟩:{x//slB kf3 Tryz.f61.body [] 0=x}).1
def s61:SC:=(⟨_,fun a=>by cbv⟩:{x:SC->SC//∀a,slW kf3 Tryz.f61.body [a]=x a}).1 c0A
theorem f6k:a0o Tryz.f61.body s61=some (unK s61,true):=by kernel_rfl
theorem f6l:a0I a0m Tryz.f61 0=true:=by kernel_rfl
def c2T:SC:=(⟨_,by cbv⟩:{x//slB kf3 Tryz.f75.body [] 0=x}).1
def s75:SC:=(⟨_,fun a=>by cbv⟩:{x:SC->SC//∀a,slW kf3 Tryz.f75.body [a]=x a}).1 c2T
theorem f6m:a0o Tryz.f75.body s75=some (unK s75,true):=by kernel_rfl
theorem f6n:a0I a0m Tryz.f75 0=true:=by kernel_rfl
def s77:SC:=(⟨_,by cbv⟩:{x//slW kf3 Tryz.f77.body []=x}).1
theorem f6o:a0o Tryz.f77.body s77=some (unK s77,true):=by kernel_rfl
theorem f6p:a0I a0m Tryz.f77 0=true:=by kernel_rfl
def d1g:SC:=(⟨_,by cbv⟩:{x//slW kf3 Tryz.f106.body []=x}).1
theorem e6o:a0o Tryz.f106.body d1g=some (unK d1g,true):=by kernel_rfl
theorem e6p:a0I a0m Tryz.f106 0=true:=by kernel_rfl
def e1e:SC:=(⟨_,by cbv⟩:{x//slW kf3 Tryz.f109.body []=x}).1
theorem e6q:a0o Tryz.f109.body e1e=some (unK e1e,true):=by kernel_rfl
theorem e6r:a0I a0m Tryz.f109 0=true:=by kernel_rfl
def e1f:SC:=(⟨_,by cbv⟩:{x//slW kf3 Tryz.f110.body []=x}).1
theorem e6s:a0o Tryz.f110.body e1f=some (unK e1f,true):=by kernel_rfl
theorem e6t:a0I a0m Tryz.f110 0=true:=by kernel_rfl
def e6u:SC:=(⟨_,by cbv⟩:{x//slW kf3 Tryz.f135.body []=x}).1
theorem e6v:a0o Tryz.f135.body e6u=some (unK e6u,true):=by kernel_rfl
theorem e6w:a0I a0m Tryz.f135 0=true:=by kernel_rfl
def c2U:SC:=(⟨_,by cbv⟩:{x//slB kf3 Tryz.f160.body [] 0=x}).1
def e6x:SC:=(⟨_,fun a=>by cbv⟩:{x:SC->SC//∀a,slW kf3 Tryz.f160.body [a]=x a}).1 c2U
theorem e6y:a0o Tryz.f160.body e6x=some (unK e6x,true):=by kernel_rfl
theorem e6z:a0I a0m Tryz.f160 0=true:=by kernel_rfl
def c2V:SC:=(⟨_,by cbv⟩:{x//slB kf3 Tryz.f161.body [] 0=x}).1
def e6A:SC:=(⟨_,fun a=>by cbv⟩:{x:SC->SC//∀a,slW kf3 Tryz.f161.body [a]=x a}).1 c2V
theorem e6B:a0o Tryz.f161.body e6A=some (unK e6A,true):=by kernel_rfl
theorem e6C:a0I a0m Tryz.f161 0=true:=by kernel_rfl
def e6D:SC:=(⟨_,by cbv⟩:{x//slW kf3 Tryz.f165.body []=x}).1
theorem e6E:a0o Tryz.f165.body e6D=some (unK e6D,true):=by kernel_rfl
theorem e6F:a0I a0m Tryz.f165 0=true:=by kernel_rfl
def d5c:SC:=(⟨_,by cbv⟩:{x//slW kf3 Tryz.f166.body []=x}).1
theorem e6G:a0o Tryz.f166.body d5c=some (unK d5c,true):=by kernel_rfl
theorem e6H:a0I a0m Tryz.f166 0=true:=by kernel_rfl
def e1g:SC:=(⟨_,by cbv⟩:{x//slW kf3 Tryz.f195.body []=x}).1
theorem e6I:a0o Tryz.f195.body e1g=some (unK e1g,true):=by kernel_rfl
theorem e6J:a0I a0m Tryz.f195 0=true:=by kernel_rfl
def e6K:SC:=(⟨_,by cbv⟩:{x//slW kf3 Tryz.f197.body []=x}).1
theorem e6L:a0o Tryz.f197.body e6K=some (unK e6K,true):=by kernel_rfl
theorem e6M:a0I a0m Tryz.f197 0=true:=by kernel_rfl
def e6N:SC:=(⟨_,by cbv⟩:{x//slW kf3 Tryz.f219.body []=x}).1
theorem e6O:a0o Tryz.f219.body e6N=some (unK e6N,true):=by kernel_rfl
theorem e6P:a0I a0m Tryz.f219 0=true:=by kernel_rfl
attribute [simp] Tryz.results3 Tryz.results4 Tryz.results5 Tryz.results6 Tryz.results8 Tryz.results9 Tryz.results15 Tryz.results16 Tryz.results18 Tryz.results19 Tryz.results23 Tryz.results26 Tryz.results27 Tryz.results32 Tryz.results33 Tryz.results39 Tryz.results41 Tryz.results42 Tryz.results49 Tryz.results53 Tryz.results54 Tryz.results55 Tryz.results56 Tryz.results57 Tryz.results58 Tryz.results60 Tryz.results61 Tryz.results75 Tryz.results77 Tryz.results106 Tryz.results109 Tryz.results110 Tryz.results135 Tryz.results160 Tryz.results161 Tryz.results165 Tryz.results166 Tryz.results195 Tryz.results197 Tryz.results219
open Go Go.Proofs
def a0X:List Nat:=[185,210,211,212,230,234,235,236]
def s17:SC:=(⟨_,by cbv⟩:{x//slW a0X Tryz.f17.body []=x}).1
theorem f6q:a0o Tryz.f17.body s17=some (unK s17,true):=by kernel_rfl
theorem f6r:a0I a0m Tryz.f17 0=true:=by kernel_rfl
def c9D:SC:=(⟨_,by cbv⟩:{x//slB a0X Tryz.f20.body [] 0=x}).1
def s20:SC:=(⟨_,fun a=>by cbv⟩:{x:SC->SC//∀a,slW a0X Tryz.f20.body [a]=x a}).1 c9D
theorem f6s:a0o Tryz.f20.body s20=some (unK s20,true):=by kernel_rfl
theorem f6t:a0I a0m Tryz.f20 0=true:=by kernel_rfl
def s21:SC:=(⟨_,by cbv⟩:{x//slW a0X Tryz.f21.body []=x}).1
theorem f6u:a0o Tryz.f21.body s21=some (unK s21,true):=by kernel_rfl
theorem f6v:a0I a0m Tryz.f21 0=true:=by kernel_rfl
def s22:SC:=(⟨_,by cbv⟩:{x//slW a0X Tryz.f22.body []=x}).1
theorem f6w:a0o Tryz.f22.body s22=some (unK s22,true):=by kernel_rfl
theorem f6x:a0I a0m Tryz.f22 0=true:=by kernel_rfl
def s24:SC:=(⟨_,by cbv⟩:{x//slW a0X Tryz.f24.body []=x}).1
theorem f6y:a0o Tryz.f24.body s24=some (unK s24,true):=by kernel_rfl
theorem f6z:a0I a0m Tryz.f24 0=true:=by kernel_rfl
def c2W:SC:=(⟨_,by cbv⟩:{x//slB a0X Tryz.f25.body [] 0=x}).1
def s25:SC:=(⟨_,fun a=>by cbv⟩:{x:SC->SC//∀a,slW a0X Tryz.f25.body [a]=x a}).1 c2W
theorem f6A:a0o Tryz.f25.body s25=some (unK s25,true):=by kernel_rfl
theorem f6B:a0I a0m Tryz.f25 0=true:=by kernel_rfl
def c9E:SC:=(⟨_,by cbv⟩:{x//slB a0X Tryz.f31.body [] 0=x}).1
def s31:SC:=(⟨_,fun a=>by cbv⟩:{x:SC->SC//∀a,slW a0X Tryz.f31.body [a]=x a}).1 c9E
theorem sl31:a0o Tryz.f31.body s31=some (unK s31,true):=by kernel_rfl
theorem f6C:a0I a0m Tryz.f31 0=true:=by kernel_rfl
def s45:SC:=(⟨_,by cbv⟩:{x//slW a0X Tryz.f45.body []=x}).1
theorem f6D:a0o Tryz.f45.body s45=some (unK s45,true):=by kernel_rfl
theorem f6E:a0I a0m Tryz.f45 0=true:=by kernel_rfl
def c6p:SC:=(⟨_,by cbv⟩:{x//slB a0X Tryz.f46.body [] 0=x}).1
def s46:SC:=(⟨_,fun a=>by cbv⟩:{x:SC->SC//∀a,slW a0X Tryz.f46.body [a]=x a}).1 c6p
theorem f6F:a0o Tryz.f46.body s46=some (unK s46,true):=by kernel_rfl
theorem f6G:a0I a0m Tryz.f46 0=true:=by kernel_rfl
def c2X:SC:=(⟨_,by cbv⟩:{x//slB a0X Tryz.f48.body [] 0=x}).1
def e6Q:SC:=(⟨_,fun a=>by cbv⟩:{x:SC->SC//∀a,slB a0X Tryz.f48.body [a] 1=x a}).1 c2X
def s48:SC:=(⟨_,fun a b=>by cbv⟩:{x:SC->SC->SC//∀a b,slW a0X Tryz.f48.body [a,b]=x a b}).1 c2X e6Q
theorem f6H:a0o Tryz.f48.body s48=some (unK s48,true):=by kernel_rfl
theorem f6I:a0I a0m Tryz.f48 0=true:=by kernel_rfl
def c9F:SC:=(⟨_,by cbv⟩:{x//slB a0X Tryz.f50.body [] 0=x}).1
def s50:SC:=(⟨_,fun a=>by cbv⟩:{x:SC->SC//∀a,slW a0X Tryz.f50.body [a]=x a}).1 c9F
theorem f6J:a0o Tryz.f50.body s50=some (unK s50,true):=by kernel_rfl
theorem f6K:a0I a0m Tryz.f50 0=true:=by kernel_rfl
def c9G:SC:=(⟨_,by cbv⟩:{x//slB a0X Tryz.f51.body [] 0=x}).1
def s51:SC:=(⟨_,fun a=>by cbv⟩:{x:SC->SC//∀a,slW a0X Tryz.f51.body [a]=x a}).1 c9G
theorem f6L:a0o Tryz.f51.body s51=some (unK s51,true):=by kernel_rfl
theorem f6M:a0I a0m Tryz.f51 0=true:=by kernel_rfl
def d5d:SC:=(⟨_,by cbv⟩:{x//slB a0X Tryz.f64.body [] 0=x}).1
def s64:SC:=(⟨_,fun a=>by cbv⟩:{x:SC->SC//∀a,slW a0X Tryz.f64.body [a]=x a}).1 d5d
theorem sl64:a0o Tryz.f64.body s64=some (unK s64,true):=by kernel_rfl
theorem f6N:a0I a0m Tryz.f64 0=true:=by kernel_rfl
def c9H:SC:=(⟨_,by cbv⟩:{x//slB a0X Tryz.f65.body [] 0=x}).1
def s65:SC:=(⟨_,fun a=>by cbv⟩:{x:SC->SC//∀a,slW a0X Tryz.f65.body [a]=x a}).1 c9H
theorem f6O:a0o Tryz.f65.body s65=some (unK s65,true):=by kernel_rfl
theorem f6P:a0I a0m Tryz.f65 0=true:=by kernel_rfl
def c9I:SC:=(⟨_,by cbv⟩:{x//slB a0X Tryz.f66.body [] 0=x}).1
def s66:SC:=(⟨_,fun a=>by cbv⟩:{x:SC->SC//∀a,slW a0X Tryz.f66.body [a]=x a}).1 c9I
theorem f6Q:a0o Tryz.f66.body s66=some (unK s66,true):=by kernel_rfl
theorem f6R:a0I a0m Tryz.f66 0=true:=by kernel_rfl
def s72:SC:=(⟨_,by cbv⟩:{x//slW a0X Tryz.f72.body []=x}).1
theorem f6S:a0o Tryz.f72.body s72=some (unK s72,true):=by kernel_rfl
theorem f6T:a0I a0m Tryz.f72 0=true:=by kernel_rfl
def b2l:SC:=(⟨_,by cbv⟩:{x//slB a0X Tryz.f76.body [] 0=x}).1
def s76:SC:=(⟨_,fun a=>by cbv⟩:{x:SC->SC//∀a,slW a0X Tryz.f76.body [a]=x a}).1 b2l
theorem f6U:a0o Tryz.f76.body s76=some (unK s76,true):=by kernel_rfl
theorem f6V:a0I a0m Tryz.f76 0=true:=by kernel_rfl
def d5e:SC:=(⟨_,by cbv⟩:{x//slB a0X Tryz.f80.body [] 0=x}).1
def s80:SC:=(⟨_,fun a=>by cbv⟩:{x:SC->SC//∀a,slW a0X Tryz.f80.body [a]=x a}).1 d5e
theorem f6W:a0o Tryz.f80.body s80=some (unK s80,true):=by kernel_rfl
theorem f6X:a0I a0m Tryz.f80 0=true:=by kernel_rfl
def d5f:SC:=(⟨_,by cbv⟩:{x//slB a0X Tryz.f87.body [] 0=x}).1
def s87:SC:=(⟨_,fun a=>by cbv⟩:{x:SC->SC//∀a,slW a0X Tryz.f87.body [a]=x a}).1 d5f
theorem f6Y:a0o Tryz.f87.body s87=some (unK s87,true):=by kernel_rfl
theorem f6Z:a0I a0m Tryz.f87 0=true:=by kernel_rfl
def s88:SC:=(⟨_,by cbv⟩:{x//slW a0X Tryz.f88.body []=x}).1
theorem f7a:a0o Tryz.f88.body s88=some (unK s88,true):=by kernel_rfl
theorem f7b:a0I a0m Tryz.f88 0=true:=by kernel_rfl
def s97:SC:=(⟨_,by cbv⟩:{x//slW a0X Tryz.f97.body []=x}).1
theorem f7c:a0o Tryz.f97.body s97=some (unK s97,true):=by kernel_rfl
theorem f7d:a0I a0m Tryz.f97 0=true:=by kernel_rfl
def s98:SC:=(⟨_,by cbv⟩:{x//slW a0X Tryz.f98.body []=x}).1
theorem f7e:a0o Tryz.f98.body s98=some (unK s98,true):=by kernel_rfl
theorem f7f:a0I a0m Tryz.f98 0=true:=by kernel_rfl
def c2Y:SC:=(⟨_,by cbv⟩:{x//slB a0X Tryz.f99.body [] 0=x}).1
def s99:SC:=(⟨_,fun a=>by cbv⟩:{x:SC->SC//∀a,slW a0X Tryz.f99.body [a]=x a}).1 c2Y
theorem f7g:a0o Tryz.f99.body s99=some (unK s99,true):=by kernel_rfl
theorem f7h:a0I a0m Tryz.f99 0=true:=by kernel_rfl
def b5B:SC:=(⟨_,by cbv⟩:{x//slB a0X Tryz.f100.body [] 0=x}).1
def e6R:SC:=(⟨_,fun a=>by cbv⟩:{x:SC->SC//∀a,slW a0X Tryz.f100.body [a]=x a}).1 b5B
theorem e6S:a0o Tryz.f100.body e6R=some (unK e6R,true):=by kernel_rfl
theorem e6T:a0I a0m Tryz.f100 0=true:=by kernel_rfl
def e6U:SC:=(⟨_,by cbv⟩:{x//slW a0X Tryz.f101.body []=x}).1
theorem e6V:a0o Tryz.f101.body e6U=some (unK e6U,true):=by kernel_rfl
theorem e6W:a0I a0m Tryz.f101 0=true:=by kernel_rfl
def e6X:SC:=(⟨_,by cbv⟩:{x//slW a0X Tryz.f102.body []=x}).1
theorem e6Y:a0o Tryz.f102.body e6X=some (unK e6X,true):=by kernel_rfl
theorem e6Z:a0I a0m Tryz.f102 0=true:=by kernel_rfl
def c2Z:SC:=(⟨_,by cbv⟩:{x//slB a0X Tryz.f103.body [] 0=x}).1
def e60:SC:=(⟨_,fun a=>by cbv⟩:{x:SC->SC//∀a,slW a0X Tryz.f103.body [a]=x a}).1 c2Z
theorem e61:a0o Tryz.f103.body e60=some (unK e60,true):=by kernel_rfl
theorem e62:a0I a0m Tryz.f103 0=true:=by kernel_rfl
def e63:SC:=(⟨_,by cbv⟩:{x//slW a0X Tryz.f104.body []=x}).1
theorem e64:a0o Tryz.f104.body e63=some (unK e63,true):=by kernel_rfl
theorem e65:a0I a0m Tryz.f104 0=true:=by kernel_rfl
def e66:SC:=(⟨_,by cbv⟩:{x//slW a0X Tryz.f105.body []=x}).1
theorem e67:a0o Tryz.f105.body e66=some (unK e66,true):=by kernel_rfl
theorem e68:a0I a0m Tryz.f105 0=true:=by kernel_rfl
def b08:SC:=(⟨_,by cbv⟩:{x//slB a0X Tryz.f107.body [] 0=x}).1
def c7N:SC:=(⟨_,fun a=>by cbv⟩:{x:SC->SC//∀a,slW a0X Tryz.f107.body [a]=x a}).1 b08
theorem e69:a0o Tryz.f107.body c7N=some (unK c7N,true):=by kernel_rfl
theorem e7a:a0I a0m Tryz.f107 0=true:=by kernel_rfl
def e7b:SC:=(⟨_,by cbv⟩:{x//slW a0X Tryz.f108.body []=x}).1
theorem e7c:a0o Tryz.f108.body e7b=some (unK e7b,true):=by kernel_rfl
theorem e7d:a0I a0m Tryz.f108 0=true:=by kernel_rfl
def c20:SC:=(⟨_,by cbv⟩:{x//slB a0X Tryz.f112.body [] 0=x}).1
def e7e:SC:=(⟨_,fun a=>by cbv⟩:{x:SC->SC//∀a,slW a0X Tryz.f112.body [a]=x a}).1 c20
theorem e7f:a0o Tryz.f112.body e7e=some (unK e7e,true):=by kernel_rfl
theorem e7g:a0I a0m Tryz.f112 0=true:=by kernel_rfl
def e7h:SC:=(⟨_,by cbv⟩:{x//slW a0X Tryz.f113.body []=x}).1
theorem e7i:a0o Tryz.f113.body e7h=some (unK e7h,true):=by kernel_rfl
theorem e7j:a0I a0m Tryz.f113 0=true:=by kernel_rfl
def c21:SC:=(⟨_,by cbv⟩:{x//slB a0X Tryz.f114.body [] 0=x}).1
def e7k:SC:=(⟨_,fun a=>by cbv⟩:{x:SC->SC//∀a,slW a0X Tryz.f114.body [a]=x a}).1 c21
theorem e7l:a0o Tryz.f114.body e7k=some (unK e7k,true):=by kernel_rfl
theorem e7m:a0I a0m Tryz.f114 0=true:=by kernel_rfl
def d5g:SC:=(⟨_,by cbv⟩:{x//slW a0X Tryz.f117.body []=x}).1
theorem e7n:a0o Tryz.f117.body d5g=some (unK d5g,true):=by kernel_rfl
theorem e7o:a0I a0m Tryz.f117 0=true:=by kernel_rfl
def e7p:SC:=(⟨_,by cbv⟩:{x//slW a0X Tryz.f118.body []=x}).1
theorem e7q:a0o Tryz.f118.body e7p=some (unK e7p,true):=by kernel_rfl
theorem e7r:a0I a0m Tryz.f118 0=true:=by kernel_rfl
def b09:SC:=(⟨_,by cbv⟩:{x//slB a0X Tryz.f119.body [] 0=x}).1
def e7s:SC:=(⟨_,fun a=>by cbv⟩:{x:SC->SC//∀a,slW a0X Tryz.f119.body [a]=x a}).1 b09
theorem e7t:a0o Tryz.f119.body e7s=some (unK e7s,true):=by kernel_rfl
theorem e7u:a0I a0m Tryz.f119 0=true:=by kernel_rfl
def d5h:SC:=(⟨_,by cbv⟩:{x//slW a0X Tryz.f120.body []=x}).1
theorem e7v:a0o Tryz.f120.body d5h=some (unK d5h,true):=by kernel_rfl
theorem e7w:a0I a0m Tryz.f120 0=true:=by kernel_rfl
def e1h:SC:=(⟨_,by cbv⟩:{x//slW a0X Tryz.f121.body []=x}).1
theorem e7x:a0o Tryz.f121.body e1h=some (unK e1h,true):=by kernel_rfl
theorem e7y:a0I a0m Tryz.f121 0=true:=by kernel_rfl
def d5i:SC:=(⟨_,by cbv⟩:{x//slW a0X Tryz.f122.body []=x}).1
theorem e7z:a0o Tryz.f122.body d5i=some (unK d5i,true):=by kernel_rfl
theorem e7A:a0I a0m Tryz.f122 0=true:=by kernel_rfl
def b5C:SC:=(⟨_,by cbv⟩:{x//slB a0X Tryz.f124.body [] 0=x}).1
def f2T:SC:=(⟨_,fun a=>by cbv⟩:{x:SC->SC//∀a,slW a0X Tryz.f124.body [a]=x a}).1 b5C
theorem e7B:a0o Tryz.f124.body f2T=some (unK f2T,true):=by kernel_rfl
theorem e7C:a0I a0m Tryz.f124 0=true:=by kernel_rfl
def a9M:SC:=(⟨_,by cbv⟩:{x//slB a0X Tryz.f130.body [] 0=x}).1
def e1i:SC:=(⟨_,fun a=>by cbv⟩:{x:SC->SC//∀a,slW a0X Tryz.f130.body [a]=x a}).1 a9M
theorem e7D:a0o Tryz.f130.body e1i=some (unK e1i,true):=by kernel_rfl
theorem e7E:a0I a0m Tryz.f130 0=true:=by kernel_rfl
def e1j:SC:=(⟨_,by cbv⟩:{x//slW a0X Tryz.f131.body []=x}).1
theorem d5j:a0o Tryz.f131.body e1j=some (unK e1j,true):=by kernel_rfl
theorem d5k:a0I a0m Tryz.f131 0=true:=by kernel_rfl
def c22:SC:=(⟨_,by cbv⟩:{x//slB a0X Tryz.f132.body [] 0=x}).1
def e7F:SC:=(⟨_,fun a=>by cbv⟩:{x:SC->SC//∀a,slW a0X Tryz.f132.body [a]=x a}).1 c22
theorem e7G:a0o Tryz.f132.body e7F=some (unK e7F,true):=by kernel_rfl
theorem e7H:a0I a0m Tryz.f132 0=true:=by kernel_rfl
def c23:SC:=(⟨_,by cbv⟩:{x//slB a0X Tryz.f133.body [] 0=x}).1
def e7I:SC:=(⟨_,fun a=>by cbv⟩:{x:SC->SC//∀a,slW a0X Tryz.f133.body [a]=x a}).1 c23
theorem e7J:a0o Tryz.f133.body e7I=some (unK e7I,true):=by kernel_rfl
theorem e7K:a0I a0m Tryz.f133 0=true:=by kernel_rfl
def c24:SC:=(⟨_,by cbv⟩:{x//slW a0X Tryz.f134.body []=x}).1
theorem e7L:a0o Tryz.f134.body c24=some (unK c24,true):=by kernel_rfl
theorem e7M:a0I a0m Tryz.f134 0=true:=by kernel_rfl
def c9J:SC:=(⟨_,by cbv⟩:{x//slW a0X Tryz.f142.body []=x}).1
theorem e7N:a0o Tryz.f142.body c9J=some (unK c9J,true):=by kernel_rfl
theorem e7O:a0I a0m Tryz.f142 0=true:=by kernel_rfl
def a9N:SC:=(⟨_,by cbv⟩:{x//slB a0X Tryz.f143.body [] 0=x}).1
def e7P:SC:=(⟨_,fun a=>by cbv⟩:{x:SC->SC//∀a,slW a0X Tryz.f143.body [a]=x a}).1 a9N
theorem e7Q:a0o Tryz.f143.body e7P=some (unK e7P,true):=by kernel_rfl
theorem e7R:a0I a0m Tryz.f143 0=true:=by kernel_rfl
def e1k:SC:=(⟨_,by cbv⟩:{x//slW a0X Tryz.f144.body []=x}).1
theorem e7S:a0o Tryz.f144.body e1k=some (unK e1k,true):=by kernel_rfl
theorem e7T:a0I a0m Tryz.f144 0=true:=by kernel_rfl
def c9K:SC:=(⟨_,by cbv⟩:{x//slW a0X Tryz.f145.body []=x}).1
theorem e7U:a0o Tryz.f145.body c9K=some (unK c9K,true):=by kernel_rfl
theorem e7V:a0I a0m Tryz.f145 0=true:=by kernel_rfl
def e1l:SC:=(⟨_,by cbv⟩:{x//slW a0X Tryz.f146.body []=x}).1
theorem e7W:a0o Tryz.f146.body e1l=some (unK e1l,true):=by kernel_rfl
theorem e7X:a0I a0m Tryz.f146 0=true:=by kernel_rfl
def d1h:SC:=(⟨_,by cbv⟩:{x//slW a0X Tryz.f147.body []=x}).1
theorem e7Y:a0o Tryz.f147.body d1h=some (unK d1h,true):=by kernel_rfl
theorem e7Z:a0I a0m Tryz.f147 0=true:=by kernel_rfl
def e1m:SC:=(⟨_,by cbv⟩:{x//slW a0X Tryz.f148.body []=x}).1
theorem e70:a0o Tryz.f148.body e1m=some (unK e1m,true):=by kernel_rfl
theorem e71:a0I a0m Tryz.f148 0=true:=by kernel_rfl
def e72:SC:=(⟨_,by cbv⟩:{x//slW a0X Tryz.f149.body []=x}).1
theorem e73:a0o Tryz.f149.body e72=some (unK e72,true):=by kernel_rfl
theorem e74:a0I a0m Tryz.f149 0=true:=by kernel_rfl
def b5D:SC:=(⟨_,by cbv⟩:{x//slB a0X Tryz.f150.body [] 0=x}).1
def e75:SC:=(⟨_,fun a=>by cbv⟩:{x:SC->SC//∀a,slW a0X Tryz.f150.body [a]=x a}).1 b5D
theorem e76:a0o Tryz.f150.body e75=some (unK e75,true):=by kernel_rfl
theorem e77:a0I a0m Tryz.f150 0=true:=by kernel_rfl
def e1n:SC:=(⟨_,by cbv⟩:{x//slW a0X Tryz.f151.body []=x}).1
theorem d5l:a0o Tryz.f151.body e1n=some (unK e1n,true):=by kernel_rfl
theorem d5m:a0I a0m Tryz.f151 0=true:=by kernel_rfl
def e78:SC:=(⟨_,by cbv⟩:{x//slW a0X Tryz.f152.body []=x}).1
theorem e79:a0o Tryz.f152.body e78=some (unK e78,true):=by kernel_rfl
theorem e8a:a0I a0m Tryz.f152 0=true:=by kernel_rfl
def d1i:SC:=(⟨_,by cbv⟩:{x//slW a0X Tryz.f153.body []=x}).1
theorem e8b:a0o Tryz.f153.body d1i=some (unK d1i,true):=by kernel_rfl
theorem e8c:a0I a0m Tryz.f153 0=true:=by kernel_rfl
def e8d:SC:=(⟨_,by cbv⟩:{x//slW a0X Tryz.f154.body []=x}).1
theorem e8e:a0o Tryz.f154.body e8d=some (unK e8d,true):=by kernel_rfl
theorem e8f:a0I a0m Tryz.f154 0=true:=by kernel_rfl
def d5n:SC:=(⟨_,by cbv⟩:{x//slW a0X Tryz.f155.body []=x}).1
theorem e8g:a0o Tryz.f155.body d5n=some (unK d5n,true):=by kernel_rfl
theorem e8h:a0I a0m Tryz.f155 0=true:=by kernel_rfl
def e8i:SC:=(⟨_,by cbv⟩:{x//slW a0X Tryz.f156.body []=x}).1
theorem e8j:a0o Tryz.f156.body e8i=some (unK e8i,true):=by kernel_rfl
theorem e8k:a0I a0m Tryz.f156 0=true:=by kernel_rfl
def d1j:SC:=(⟨_,by cbv⟩:{x//slW a0X Tryz.f157.body []=x}).1
theorem e8l:a0o Tryz.f157.body d1j=some (unK d1j,true):=by kernel_rfl
theorem e8m:a0I a0m Tryz.f157 0=true:=by kernel_rfl
def e8n:SC:=(⟨_,by cbv⟩:{x//slW a0X Tryz.f158.body []=x}).1
theorem e8o:a0o Tryz.f158.body e8n=some (unK e8n,true):=by kernel_rfl
theorem e8p:a0I a0m Tryz.f158 0=true:=by kernel_rfl
def e8q:SC:=(⟨_,by cbv⟩:{x//slW a0X Tryz.f159.body []=x}).1
theorem e8r:a0o Tryz.f159.body e8q=some (unK e8q,true):=by kernel_rfl
theorem e8s:a0I a0m Tryz.f159 0=true:=by kernel_rfl
def e8t:SC:=(⟨_,by cbv⟩:{x//slW a0X Tryz.f162.body []=x}).1
theorem e8u:a0o Tryz.f162.body e8t=some (unK e8t,true):=by kernel_rfl
theorem e8v:a0I a0m Tryz.f162 0=true:=by kernel_rfl
def c9L:SC:=(⟨_,by cbv⟩:{x//slW a0X Tryz.f163.body []=x}).1
theorem e8w:a0o Tryz.f163.body c9L=some (unK c9L,true):=by kernel_rfl
theorem e8x:a0I a0m Tryz.f163 0=true:=by kernel_rfl
def d5o:SC:=(⟨_,by cbv⟩:{x//slW a0X Tryz.f164.body []=x}).1
theorem e8y:a0o Tryz.f164.body d5o=some (unK d5o,true):=by kernel_rfl
theorem e8z:a0I a0m Tryz.f164 0=true:=by kernel_rfl
def c25:SC:=(⟨_,by cbv⟩:{x//slB a0X Tryz.f168.body [] 0=x}).1
def e1o:SC:=(⟨_,fun a=>by cbv⟩:{x:SC->SC//∀a,slW a0X Tryz.f168.body [a]=x a}).1 c25
theorem e8A:a0o Tryz.f168.body e1o=some (unK e1o,true):=by kernel_rfl
theorem e8B:a0I a0m Tryz.f168 0=true:=by kernel_rfl
def c5c:SC:=(⟨_,by cbv⟩:{x//slW a0X Tryz.f170.body []=x}).1
theorem e8C:a0o Tryz.f170.body c5c=some (unK c5c,true):=by kernel_rfl
theorem e8D:a0I a0m Tryz.f170 0=true:=by kernel_rfl
def b5E:SC:=(⟨_,by cbv⟩:{x//slB a0X Tryz.f171.body [] 0=x}).1
def e8E:SC:=(⟨_,fun a=>by cbv⟩:{x:SC->SC//∀a,slW a0X Tryz.f171.body [a]=x a}).1 b5E
theorem e8F:a0o Tryz.f171.body e8E=some (unK e8E,true):=by kernel_rfl
theorem e8G:a0I a0m Tryz.f171 0=true:=by kernel_rfl
def c26:SC:=(⟨_,by cbv⟩:{x//slB a0X Tryz.f172.body [] 0=x}).1
def e1p:SC:=(⟨_,fun a=>by cbv⟩:{x:SC->SC//∀a,slW a0X Tryz.f172.body [a]=x a}).1 c26
theorem e8H:a0o Tryz.f172.body e1p=some (unK e1p,true):=by kernel_rfl
theorem e8I:a0I a0m Tryz.f172 0=true:=by kernel_rfl
def d5p:SC:=(⟨_,by cbv⟩:{x//slW a0X Tryz.f175.body []=x}).1
theorem e8J:a0o Tryz.f175.body d5p=some (unK d5p,true):=by kernel_rfl
theorem e8K:a0I a0m Tryz.f175 0=true:=by kernel_rfl
def c27:SC:=(⟨_,by cbv⟩:{x//slB a0X Tryz.f176.body [] 0=x}).1
def e8L:SC:=(⟨_,fun a=>by cbv⟩:{x:SC->SC//∀a,slW a0X Tryz.f176.body [a]=x a}).1 c27
theorem e8M:a0o Tryz.f176.body e8L=some (unK e8L,true):=by kernel_rfl
theorem e8N:a0I a0m Tryz.f176 0=true:=by kernel_rfl
def e1q:SC:=(⟨_,by cbv⟩:{x//slW a0X Tryz.f184.body []=x}).1
theorem e8O:a0o Tryz.f184.body e1q=some (unK e1q,true):=by kernel_rfl
theorem e8P:a0I a0m Tryz.f184 0=true:=by kernel_rfl
def b9q:SC:=(⟨_,by cbv⟩:{x//slB a0X Tryz.f185.body [] 0=x}).1
def d5q:SC:=(⟨_,fun a=>by cbv⟩:{x:SC->SC//∀a,slW a0X Tryz.f185.body [a]=x a}).1 b9q
theorem e8Q:a0o Tryz.f185.body d5q=some (unK d5q,true):=by kernel_rfl
theorem e8R:a0I a0m Tryz.f185 0=true:=by kernel_rfl
def e1r:SC:=(⟨_,by cbv⟩:{x//slW a0X Tryz.f186.body []=x}).1
theorem e8S:a0o Tryz.f186.body e1r=some (unK e1r,true):=by kernel_rfl
theorem e8T:a0I a0m Tryz.f186 0=true:=by kernel_rfl
def a7p:SC:=(⟨_,by cbv⟩:{x//slB a0X Tryz.f187.body [] 0=x}).1
def e1s:SC:=(⟨_,fun a=>by cbv⟩:{x:SC->SC//∀a,slW a0X Tryz.f187.body [a]=x a}).1 a7p
theorem d5r:a0o Tryz.f187.body e1s=some (unK e1s,true):=by kernel_rfl
theorem d5s:a0I a0m Tryz.f187 0=true:=by kernel_rfl
def b4F:SC:=(⟨_,by cbv⟩:{x//slW a0X Tryz.f188.body []=x}).1
theorem e8U:a0o Tryz.f188.body b4F=some (unK b4F,true):=by kernel_rfl
theorem e8V:a0I a0m Tryz.f188 0=true:=by kernel_rfl
def b9r:SC:=(⟨_,by cbv⟩:{x//slW a0X Tryz.f189.body []=x}).1
theorem e8W:a0o Tryz.f189.body b9r=some (unK b9r,true):=by kernel_rfl
theorem e8X:a0I a0m Tryz.f189 0=true:=by kernel_rfl
def e8Y:SC:=(⟨_,by cbv⟩:{x//slW a0X Tryz.f191.body []=x}).1
theorem e8Z:a0o Tryz.f191.body e8Y=some (unK e8Y,true):=by kernel_rfl
theorem e80:a0I a0m Tryz.f191 0=true:=by kernel_rfl
def b5F:SC:=(⟨_,by cbv⟩:{x//slB a0X Tryz.f192.body [] 0=x}).1
def e81:SC:=(⟨_,fun a=>by cbv⟩:{x:SC->SC//∀a,slW a0X Tryz.f192.body [a]=x a}).1 b5F
theorem e82:a0o Tryz.f192.body e81=some (unK e81,true):=by kernel_rfl
theorem e83:a0I a0m Tryz.f192 0=true:=by kernel_rfl
def e84:SC:=(⟨_,by cbv⟩:{x//slW a0X Tryz.f193.body []=x}).1
theorem e85:a0o Tryz.f193.body e84=some (unK e84,true):=by kernel_rfl
theorem e86:a0I a0m Tryz.f193 0=true:=by kernel_rfl
def e1t:SC:=(⟨_,by cbv⟩:{x//slW a0X Tryz.f194.body []=x}).1
theorem e87:a0o Tryz.f194.body e1t=some (unK e1t,true):=by kernel_rfl
theorem e88:a0I a0m Tryz.f194 0=true:=by kernel_rfl
def e89:SC:=(⟨_,by cbv⟩:{x//slW a0X Tryz.f196.body []=x}).1
theorem e9a:a0o Tryz.f196.body e89=some (unK e89,true):=by kernel_rfl
theorem e9b:a0I a0m Tryz.f196 0=true:=by kernel_rfl
def e9c:SC:=(⟨_,by cbv⟩:{x//slW a0X Tryz.f198.body []=x}).1
theorem e9d:a0o Tryz.f198.body e9c=some (unK e9c,true):=by kernel_rfl
theorem e9e:a0I a0m Tryz.f198 0=true:=by kernel_rfl
def e9f:SC:=(⟨_,by cbv⟩:{x//slW a0X Tryz.f199.body []=x}).1
theorem e9g:a0o Tryz.f199.body e9f=some (unK e9f,true):=by kernel_rfl
theorem e9h:a0I a0m Tryz.f199 0=true:=by kernel_rfl
def e9i:SC:=(⟨_,by cbv⟩:{x//slW a0X Tryz.f201.body []=x}).1
theorem e9j:a0o Tryz.f201.body e9i=some (unK e9i,true):=by kernel_rfl
theorem e9k:a0I a0m Tryz.f201 0=true:=by kernel_rfl
def e9l:SC:=(⟨_,by cbv⟩:{x//slW a0X Tryz.f202.body []=x}).1
theorem e9m:a0o Tryz.f202.body e9l=some (unK e9l,true):=by kernel_rfl
theorem e9n:a0I a0m Tryz.f202 0=true:=by kernel_rfl
def c9M:SC:=(⟨_,by cbv⟩:{x//slW a0X Tryz.f204.body []=x}).1
theorem e9o:a0o Tryz.f204.body c9M=some (unK c9M,true):=by kernel_rfl
theorem e9p:a0I a0m Tryz.f204 0=true:=by kernel_rfl
def c5d:SC:=(⟨_,by cbv⟩:{x//slW a0X Tryz.f205.body []=x}).1
theorem e9q:a0o Tryz.f205.body c5d=some (unK c5d,true):=by kernel_rfl
theorem e9r:a0I a0m Tryz.f205 0=true:=by kernel_rfl
def c28:SC:=(⟨_,by cbv⟩:{x//slB a0X Tryz.f209.body [] 0=x}).1
def e9s:SC:=(⟨_,fun a=>by cbv⟩:{x:SC->SC//∀a,slW a0X Tryz.f209.body [a]=x a}).1 c28
theorem e9t:a0o Tryz.f209.body e9s=some (unK e9s,true):=by kernel_rfl
theorem e9u:a0I a0m Tryz.f209 0=true:=by kernel_rfl
def d1k:SC:=(⟨_,by cbv⟩:{x//slW a0X Tryz.f210.body []=x}).1
theorem e9v:a0o Tryz.f210.body d1k=some (unK d1k,true):=by kernel_rfl
theorem e9w:a0I a0m Tryz.f210 0=true:=by kernel_rfl
def e9x:SC:=(⟨_,by cbv⟩:{x//slW a0X Tryz.f211.body []=x}).1
theorem e9y:a0o Tryz.f211.body e9x=some (unK e9x,true):=by kernel_rfl
theorem e9z:a0I a0m Tryz.f211 0=true:=by kernel_rfl
def d1l:SC:=(⟨_,by cbv⟩:{x//slW a0X Tryz.f212.body []=x}).1
theorem e9A:a0o Tryz.f212.body d1l=some (unK d1l,true):=by kernel_rfl
theorem e9B:a0I a0m Tryz.f212 0=true:=by kernel_rfl
def d1m:SC:=(⟨_,by cbv⟩:{x//slW a0X Tryz.f213.body []=x}).1
theorem e9C:a0o Tryz.f213.body d1m=some (unK d1m,true):=by kernel_rfl
theorem e9D:a0I a0m Tryz.f213 0=true:=by kernel_rfl
def e1u:SC:=(⟨_,by cbv⟩:{x//slW a0X Tryz.f214.body []=x}).1
theorem e9E:a0o Tryz.f214.body e1u=some (unK e1u,true):=by kernel_rfl
theorem e9F:a0I a0m Tryz.f214 0=true:=by kernel_rfl
def e9G:SC:=(⟨_,by cbv⟩:{x//slW a0X Tryz.f215.body []=x}).1
theorem e9H:a0o Tryz.f215.body e9G=some (unK e9G,true):=by kernel_rfl
theorem e9I:a0I a0m Tryz.f215 0=true:=by kernel_rfl
def a8G:SC:=(⟨_,by cbv⟩:{x//slB a0X Tryz.f216.body [] 0=x}).1
def e9J:SC:=(⟨_,fun a=>by cbv⟩:{x:SC->SC//∀a,slW a0X Tryz.f216.body [a]=x a}).1 a8G
theorem e9K:a0o Tryz.f216.body e9J=some (unK e9J,true):=by kernel_rfl
theorem e9L:a0I a0m Tryz.f216 0=true:=by kernel_rfl
def e9M:SC:=(⟨_,by cbv⟩:{x//slW a0X Tryz.f217.body []=x}).1
theorem e9N:a0o Tryz.f217.body e9M=some (unK e9M,true):=by kernel_rfl
theorem e9O:a0I a0m Tryz.f217 0=true:=by kernel_rfl
def c29:SC:=(⟨_,by cbv⟩:{x//slB a0X Tryz.f218.body [] 0=x}).1
def e9P:SC:=(⟨_,fun a=>by cbv⟩:{x:SC->SC//∀a,slW a0X Tryz.f218.body [a]=x a}).1 c29
theorem e9Q:a0o Tryz.f218.body e9P=some (unK e9P,true):=by kernel_rfl
theorem e9R:a0I a0m Tryz.f218 0=true:=by kernel_rfl
def b9s:SC:=(⟨_,by cbv⟩:{x//slB a0X Tryz.f220.body [] 0=x}).1
def e9S:SC:=(⟨_,fun a=>by cbv⟩:{x:SC->SC//∀a,slW a0X Tryz.f220.body [a]=x a}).1 b9s
theorem e9T:a0o Tryz.f220.body e9S=some (unK e9S,true):=by kernel_rfl
theorem e9U:a0I a0m Tryz.f220 0=true:=by kernel_rfl
def c3a:SC:=(⟨_,by cbv⟩:{x//slB a0X Tryz.f221.body [] 0=x}).1
def e9V:SC:=(⟨_,fun a=>by cbv⟩:{x:SC->SC//∀a,slW a0X Tryz.f221.body [a]=x a}).1 c3a
theorem e9W:a0o Tryz.f221.body e9V=some (unK e9V,true):=by kernel_rfl
theorem e9X:a0I a0m Tryz.f221 0=true:=by kernel_rfl
def e1v:SC:=(⟨_,by cbv⟩:{x//slW a0X Tryz.f222.body []=x}).1
theorem e9Y:a0o Tryz.f222.body e1v=some (unK e1v,true):=by kernel_rfl
theorem e9Z:a0I a0m Tryz.f222 0=true:=by kernel_rfl
def d5t:SC:=(⟨_,by cbv⟩:{x//slW a0X Tryz.f225.body []=x}).1
theorem e90:a0o Tryz.f225.body d5t=some (unK d5t,true):=by kernel_rfl
theorem e91:a0I a0m Tryz.f225 0=true:=by kernel_rfl
def e92:SC:=(⟨_,by cbv⟩:{x//slW a0X Tryz.f227.body []=x}).1
theorem e93:a0o Tryz.f227.body e92=some (unK e92,true):=by kernel_rfl
theorem e94:a0I a0m Tryz.f227 0=true:=by kernel_rfl
def e95:SC:=(⟨_,by cbv⟩:{x//slW a0X Tryz.f228.body []=x}).1
theorem e96:a0o Tryz.f228.body e95=some (unK e95,true):=by kernel_rfl
theorem e97:a0I a0m Tryz.f228 0=true:=by kernel_rfl
def d5u:SC:=(⟨_,by cbv⟩:{x//slW a0X Tryz.f229.body []=x}).1
theorem e98:a0o Tryz.f229.body d5u=some (unK d5u,true):=by kernel_rfl
theorem e99:a0I a0m Tryz.f229 0=true:=by kernel_rfl
def a7q:SC:=(⟨_,by cbv⟩:{x//slB a0X Tryz.f230.body [] 0=x}).1
def d5v:SC:=(⟨_,fun a=>by cbv⟩:{x:SC->SC//∀a,slW a0X Tryz.f230.body [a]=x a}).1 a7q
theorem f0a:a0o Tryz.f230.body d5v=some (unK d5v,true):=by kernel_rfl
theorem f0b:a0I a0m Tryz.f230 0=true:=by kernel_rfl
def c5e:SC:=(⟨_,by cbv⟩:{x//slW a0X Tryz.f232.body []=x}).1
theorem f0c:a0o Tryz.f232.body c5e=some (unK c5e,true):=by kernel_rfl
theorem f0d:a0I a0m Tryz.f232 0=true:=by kernel_rfl
def f0e:SC:=(⟨_,by cbv⟩:{x//slW a0X Tryz.f233.body []=x}).1
theorem f0f:a0o Tryz.f233.body f0e=some (unK f0e,true):=by kernel_rfl
theorem f0g:a0I a0m Tryz.f233 0=true:=by kernel_rfl
def e1w:SC:=(⟨_,by cbv⟩:{x//slW a0X Tryz.f234.body []=x}).1
theorem f0h:a0o Tryz.f234.body e1w=some (unK e1w,true):=by kernel_rfl
theorem f0i:a0I a0m Tryz.f234 0=true:=by kernel_rfl
def f0j:SC:=(⟨_,by cbv⟩:{x//slW a0X Tryz.f235.body []=x}).1
theorem f0k:a0o Tryz.f235.body f0j=some (unK f0j,true):=by kernel_rfl
theorem f0l:a0I a0m Tryz.f235 0=true:=by kernel_rfl
def e1x:SC:=(⟨_,by cbv⟩:{x//slW a0X Tryz.f236.body []=x}).1
theorem f0m:a0o Tryz.f236.body e1x=some (unK e1x,true):=by kernel_rfl
theorem f0n:a0I a0m Tryz.f236 0=true:=by kernel_rfl
def b9t:SC:=(⟨_,by cbv⟩:{x//slB a0X Tryz.f238.body [] 0=x}).1
def f0o:SC:=(⟨_,fun a=>by cbv⟩:{x:SC->SC//∀a,slW a0X Tryz.f238.body [a]=x a}).1 b9t
theorem f0p:a0o Tryz.f238.body f0o=some (unK f0o,true):=by kernel_rfl
theorem f0q:a0I a0m Tryz.f238 0=true:=by kernel_rfl
def d5w:SC:=(⟨_,by cbv⟩:{x//slW a0X Tryz.f239.body []=x}).1
theorem f0r:a0o Tryz.f239.body d5w=some (unK d5w,true):=by kernel_rfl
theorem f0s:a0I a0m Tryz.f239 0=true:=by kernel_rfl
def d5x:SC:=(⟨_,by cbv⟩:{x//slW a0X Tryz.f240.body []=x}).1
theorem f0t:a0o Tryz.f240.body d5x=some (unK d5x,true):=by kernel_rfl
theorem f0u:a0I a0m Tryz.f240 0=true:=by kernel_rfl
def f0v:SC:=(⟨_,by cbv⟩:{x//slW a0X Tryz.f241.body []=x}).1
theorem f0w:a0o Tryz.f241.body f0v=some (unK f0v,true):=by kernel_rfl
theorem f0x:a0I a0m Tryz.f241 0=true:=by kernel_rfl
attribute [simp] Tryz.results17 Tryz.results20 Tryz.results21 Tryz.results22 Tryz.results24 Tryz.results25 Tryz.results31 Tryz.results45 Tryz.results46 Tryz.results48 Tryz.results50 Tryz.results51 Tryz.results64 Tryz.results65 Tryz.results66 Tryz.results72 Tryz.results76 Tryz.results80 Tryz.results87 Tryz.results88 Tryz.results89 Tryz.results97 Tryz.results98 Tryz.results99 Tryz.results100 Tryz.results101 Tryz.results102 Tryz.results103 Tryz.results104 Tryz.results105 Tryz.results107 Tryz.results108 Tryz.results112 Tryz.results113 Tryz.results114 Tryz.results117 Tryz.results118 Tryz.results119 Tryz.results120 Tryz.results121 Tryz.results122 Tryz.results123 Tryz.results124 Tryz.results130 Tryz.results131 Tryz.results132 Tryz.results133 Tryz.results134 Tryz.results142 Tryz.results143 Tryz.results144 Tryz.results145 Tryz.results146 Tryz.results147 Tryz.results148 Tryz.results149 Tryz.results150 Tryz.results151 Tryz.results152 Tryz.results153 Tryz.results154 Tryz.results155 Tryz.results156 Tryz.results157 Tryz.results158 Tryz.results159 Tryz.results162 Tryz.results163 Tryz.results164 Tryz.results168 Tryz.results170 Tryz.results171 Tryz.results172 Tryz.results175 Tryz.results176 Tryz.results184 Tryz.results185 Tryz.results186 Tryz.results187 Tryz.results188 Tryz.results189 Tryz.results191 Tryz.results192 Tryz.results193 Tryz.results194 Tryz.results196 Tryz.results198 Tryz.results199 Tryz.results201 Tryz.results202 Tryz.results204 Tryz.results205 Tryz.results209 Tryz.results210 Tryz.results211 Tryz.results212 Tryz.results213 Tryz.results214 Tryz.results215 Tryz.results216 Tryz.results217 Tryz.results218 Tryz.results220 Tryz.results221 Tryz.results222 Tryz.results225 Tryz.results227 Tryz.results228 Tryz.results229 Tryz.results230 Tryz.results232 Tryz.results233 Tryz.results234 Tryz.results235 Tryz.results236 Tryz.results238 Tryz.results239 Tryz.results240 Tryz.results241
open Go Go.Proofs
theorem b9u (n hi:Int):PEv Tryz.prog 63 [.c (.raw (.int .i64 n)),.c (.raw (.int .i64 hi))] (.c (.raw (.bool (decide (0<=n)&&decide (n<=hi))))):=by
 refine a0e mixed b2e Tryz.func63 f4d f4e (by kernel_rfl) (by simp) (by simp) ?_
 simp [s63]
 omega
def within (i n:Int):Int:=(i%18446744073709551616)%n
theorem a4x {n:Int} (h1:0<=n) (h2:n<18446744073709551616):IntKind.wrap .u64 n=n:=by
 have:IntKind.wrap .u64 n=n%18446744073709551616:=by simp [IntKind.wrap,IntKind.bits,IntKind.signed]
 rw [this];omega
theorem f0y {n:Int}:IntKind.wrap .u64 n=n%18446744073709551616:=by simp [IntKind.wrap,IntKind.bits,IntKind.signed]
theorem c3b (i n:Int) (h1:0<n) (h2:n<=9223372036854775807):PEv Tryz.prog 91 [.c (.raw (.int .i64 i)),.c (.raw (.int .i64 n))] (.c (.raw (.int .i64 (within i n)))):=by
 refine a0e mixed b2e Tryz.func91 f4B f4C (by kernel_rfl) (by simp) (by simp) ?_
 simp [s91,f0y]
 have e:n%18446744073709551616=n:=by omega
 rw [e]
 refine ⟨by omega,?_⟩
 have h3:0<=i%18446744073709551616:=by omega
 rw [Int.tmod_eq_emod_of_nonneg h3]
 unfold within
 have h4:=Int.emod_nonneg (i%18446744073709551616) (by omega:n≠0)
 have h5:=Int.emod_lt_of_pos (i%18446744073709551616) h1
 exact a0d (by omega) (by omega)
theorem c0B (n:Nat):a3a (List.replicate n [AC.raw (.int .u8 0)])=some (List.replicate n 0):=by
 induction n with
 |zero=>rfl
 |succ n ih=>simp [List.replicate_succ,ih]
def blank:List UInt8:=List.replicate 32 0
theorem c6q (n:Nat) (h:n<=1000000):PEv Tryz.prog 85 [.c (.raw (.int .i64 n))] (.c (.str (List.replicate n 0))):=by
 refine a0e mixed b2e Tryz.func85 f4x f4y (by kernel_rfl) (by simp) (by simp) ?_
 simp [s85,c0B]
 omega
theorem c3c (n:Int) (h:0<=n/\n<=1000000):PEv Tryz.prog 85 [.c (.raw (.int .i64 n))] (.c (.str (List.replicate n.toNat 0))):=by
 have:=c6q n.toNat (by omega)
 rw [Int.toNat_of_nonneg h.1] at this
 exact this
def c3d:List AV->Option (Prop×AV):=t2 (fun _ _=>True) fun n hi:Int=>.c (.raw (.bool (decide (0<=n)&&decide (n<=hi))))
@[simp] theorem f0z {l:List AV}:c3d l=(t2 (fun _ _=>True) fun n hi:Int=>.c (.raw (.bool (decide (0<=n)&&decide (n<=hi))))) l:=(rfl)
def d5y:List AV->Option (Prop×AV):=t2 (fun _ n=>0<n/\n<=9223372036854775807) fun i n:Int=>.c (.raw (.int .i64 (within i n)))
def c3e:List AV->Option (Prop×AV):=t1 (fun n=>0<=n/\n<=1000000) fun n:Int=>.c (.str (List.replicate n.toNat 0))
@[simp] theorem f0A {l:List AV}:c3e l=(t1 (fun n=>0<=n/\n<=1000000) fun n:Int=>.c (.str (List.replicate n.toNat 0))) l:=(rfl)
def d5z:List AV->Option (Prop×AV):=t2 (fun a b=>a.safe.length<4611686018427387904/\a.wait.length<4611686018427387904) fun a b:a0l=>.c (.raw (.bool (decide (a=b))))
def c3f:List AV->Option (Prop×AV):=t1 (fun d=>d.safe.length<1000000/\d.wait.length<1000000) fun d:a0l=>.g (a0z d)
@[simp] theorem f0B {l:List AV}:c3f l=(t1 (fun d=>d.safe.length<1000000/\d.wait.length<1000000) fun d:a0l=>.g (a0z d)) l:=(rfl)
def F2:CT:=(63,.pu c3d)::(91,.pu d5y)::(85,.pu c3e)::(62,.pu d5z)::(34,.pu c3f)::F1
theorem c9N:a1k Tryz.prog F2:=⟨a0R fun n hi _=>b9u n hi,
 a0R fun i n h=>c3b i n h.1 h.2,
 a0n fun n h=>c3c n h,
 a0R fun a b h=>b5u a b h.1 h.2,
 a0n fun d h=>a9D d h.1 h.2,b2e⟩
@[simp] theorem e1y:a0b F2 63=some (.pu c3d):=(rfl)
@[simp] theorem e1z:a0b F2 85=some (.pu c3e):=(rfl)
@[simp] theorem e1A:a0b F2 34=some (.pu c3f):=(rfl)
@[simp] theorem f0C {n:Nat} (h:(n==63||n==91||n==85||n==62||n==34)=false):a0b F2 n=a0b F1 n:=by
 simp only [Bool.or_eq_false_iff,beq_eq_false_iff_ne,ne_eq] at h
 simp [F2,a0b,h]
theorem b1a:PEv Tryz.prog 38 [] (.c (.str blank)):=by
 refine a0e mixed c9N Tryz.func38 f3P f3Q (by kernel_rfl) (by simp) (by simp) ?_
 simp [s38,blank]
open Go Go.Proofs
def a65 {α:Type} (f:α->Int):Int->List α->Int
 |n,[]=>n
 |n,x::r=>if n<1048576 then a65 f (n+f x) r else n
def a1I (d:a0l):Int:=a65 (fun s:a4o=>(s.text.length:Int)/16) (a65 (fun s:List UInt8=>(s.length:Int)/64) ((d.safe.length:Int)/4+d.wait.length) d.safe) d.wait
theorem a7r {α:Type} (f:α->Int) (n:Int) (l:List α) (i:Nat) (h:i<l.length) (hn:n<1048576):a65 f n (l.drop i)=a65 f (n+f l[i]) (l.drop (i+1)):=by
 rw [List.drop_eq_getElem_cons h,a65,if_pos hn]
theorem a7s {α:Type} (f:α->Int) (n:Int) (l:List α) (h:¬n<1048576):a65 f n l=n:=by
 cases l with
 |nil=>rfl
 |cons x r=>rw [a65,if_neg h]
theorem b2m (d:a0l) (h1:d.safe.length<281474976710656) (h2:d.wait.length<281474976710656) (h3:∀s∈d.safe,s.length<281474976710656) (h4:∀s∈d.wait,s.text.length<281474976710656) :
  PEv Tryz.prog 96 [Arg.enc d] (.c (.raw (.int .i64 (a1I d)))):=by
 have hF:a1k Tryz.prog []:=trivial
 refine a0e mixed hF Tryz.func96 f4F f4G (by kernel_rfl) (by simp) (by simp) ?_
 have e0:IntKind.wrap .i64 (IntKind.wrap .i64 ((d.safe.length:Int)/4)+d.wait.length)=(d.safe.length:Int)/4+d.wait.length:=by
  rw [a0d (n:=(d.safe.length:Int)/4) (by omega) (by omega),a0d (by omega) (by omega)]
 simp [s96,e0]
 generalize hW:a65 (fun s:List UInt8=>(s.length:Int)/64) ((d.safe.length:Int)/4+d.wait.length) d.safe=W
 refine c6f (fun st=>st.s 1=.c (.pt (0,1) 0 0)/\st.H (0,1)=.arr 25 2 false [[.sl .brw false (a0a d.safe),.sl .brw false (a0a d.wait)]]/\st.s 3=.c (.raw (.int .i64 W))/\0<=W/\W<1125899906842624) ?_ ?_
 ·refine a1C (fun n st=>∃(i:Nat) (m:Int),i<=d.safe.length/\n=d.safe.length-i/\st.s 1=.c (.pt (0,1) 0 0)/\st.H (0,1)=.arr 25 2 false [[.sl .brw false (a0a d.safe),.sl .brw false (a0a d.wait)]]/\
   st.s 3=.c (.raw (.int .i64 m))/\st.s 4=.c (.raw (.int .i64 i))/\0<=m/\m<1125899906842624/\a65 (fun s:List UInt8=>(s.length:Int)/64) m (d.safe.drop i)=W)
   d.safe.length ⟨0,(d.safe.length:Int)/4+d.wait.length,by simp [hW];omega⟩ ?_
  rintro n st ⟨i,m,hi,rfl,g1,gH,g3,g4,hm0,hm1,hw⟩
  by_cases hlt:i<d.safe.length
  ·by_cases hm:m<1048576
   ·have hl:=h3 d.safe[i] (List.getElem_mem hlt)
    have e1:IntKind.wrap .i64 (m+IntKind.wrap .i64 ((d.safe[i].length:Int)/64))=m+(d.safe[i].length:Int)/64:=by
     rw [a0d (n:=(d.safe[i].length:Int)/64) (by omega) (by omega),a0d (by omega) (by omega)]
    have e2:IntKind.wrap .i64 ((i:Int)+1)=((i+1:Nat):Int):=by rw [a0d]<;>omega
    simp [b19,b5i,g1,gH,g3,g4,hlt,hm,e1,e2]
    refine ⟨_,?_,i+1,?_,rfl,rfl,?_,?_,?_⟩
    ·omega
    ·omega
    ·omega
    ·omega
    ·rw [<-hw,a7r _ _ _ _ hlt hm]
   ·rw [a7s _ _ _ hm] at hw
    subst hw
    simp [b19,b5i,g1,gH,g3,g4,hlt,hm]
    omega
  ·have:d.safe.drop i=[]:=List.drop_eq_nil_of_le (by omega)
   rw [this,a65] at hw
   subst hw
   simp [b19,b5i,g1,gH,g3,g4,hlt]
   omega
 ·rintro st ⟨g1,gH,g3,hW0,hW1⟩
  simp [b19,b5i,g1,gH,g3]
  have hV:a1I d=a65 (fun s:a4o=>(s.text.length:Int)/16) W d.wait:=by rw [<-hW];rfl
  refine a1C (fun n st=>∃(i:Nat) (m:Int),i<=d.wait.length/\n=d.wait.length-i/\st.s 1=.c (.pt (0,1) 0 0)/\st.H (0,1)=.arr 25 2 false [[.sl .brw false (a0a d.safe),.sl .brw false (a0a d.wait)]]/\
   st.s 3=.c (.raw (.int .i64 m))/\st.s 5=.c (.raw (.int .i64 i))/\0<=m/\m<2251799813685248/\a65 (fun s:a4o=>(s.text.length:Int)/16) m (d.wait.drop i)=a1I d)
   d.wait.length ⟨0,W,by simp [hV,g1,gH,g3];omega⟩ ?_
  rintro n st ⟨i,m,hi,rfl,g1,gH,g3,g4,hm0,hm1,hw⟩
  by_cases hlt:i<d.wait.length
  ·by_cases hm:m<1048576
   ·have hl:=h4 d.wait[i] (List.getElem_mem hlt)
    have e1:IntKind.wrap .i64 (m+IntKind.wrap .i64 ((d.wait[i].text.length:Int)/16))=m+(d.wait[i].text.length:Int)/16:=by
     rw [a0d (n:=(d.wait[i].text.length:Int)/16) (by omega) (by omega),a0d (by omega) (by omega)]
    have e2:IntKind.wrap .i64 ((i:Int)+1)=((i+1:Nat):Int):=by rw [a0d]<;>omega
    simp [b19,b5i,g1,gH,g3,g4,hlt,hm,e1,e2]
    refine ⟨_,?_,i+1,?_,rfl,rfl,?_,?_,?_⟩
    ·omega
    ·omega
    ·omega
    ·omega
    ·rw [<-hw,a7r _ _ _ _ hlt hm]
   ·rw [a7s _ _ _ hm] at hw
    subst hw
    simp [b19,b5i,g1,gH,g3,g4,hlt,hm]
  ·have:d.wait.drop i=[]:=List.drop_eq_nil_of_le (by omega)
   rw [this,a65] at hw
   subst hw
   simp [b19,b5i,g1,gH,g3,g4,hlt]
open Go Go.Proofs
theorem c0C (l:List (List UInt8)) (hl:l.length<1000000):PEv Tryz.prog 86 [.c (.sl .brw false (a0a l))] (.c (.nw 9 1 (a0a l))):=by
 have hF:a1k Tryz.prog []:=trivial
 refine a0e mixed hF Tryz.func86 f4z f4A (by kernel_rfl) (by simp) (by simp) ?_
 simp [s86]
 omega
theorem c0D (l:List a4o) (hl:l.length<1000000):PEv Tryz.prog 139 [.c (.sl .brw false (a0a l))] (.c (.nw 125 2 (a0a l))):=by
 have hF:a1k Tryz.prog []:=trivial
 refine a0e mixed hF Tryz.func139 e4T e4U (by kernel_rfl) (by simp) (by simp) ?_
 simp [e4S]
 omega
def c3g:List AV->Option (Prop×AV):=t1 (fun l=>l.length<1000000) fun l:List (List UInt8)=>.c (.nw 9 1 (a0a l))
@[simp] theorem f0D {l:List AV}:c3g l=(t1 (fun l=>l.length<1000000) fun l:List (List UInt8)=>.c (.nw 9 1 (a0a l))) l:=(rfl)
def b7j:List AV->Option (Prop×AV):=t1 (fun l=>l.length<1000000) fun l:List a4o=>.c (.nw 125 2 (a0a l))
@[simp] theorem e1B {l:List AV}:b7j l=(t1 (fun l=>l.length<1000000) fun l:List a4o=>.c (.nw 125 2 (a0a l))) l:=(rfl)
def F3:CT:=(86,.pu c3g)::(139,.pu b7j)::F2
theorem d5A:a1k Tryz.prog F3:=⟨a0n fun l h=>c0C l h,
 a0n fun l h=>c0D l h,c9N⟩
@[simp] theorem e1C:a0b F3 86=some (.pu c3g):=(rfl)
@[simp] theorem d5B:a0b F3 139=some (.pu b7j):=(rfl)
@[simp] theorem f0E {n:Nat} (h:(n==86||n==139)=false):a0b F3 n=a0b F2 n:=by
 simp only [Bool.or_eq_false_iff,beq_eq_false_iff_ne,ne_eq] at h
 simp [F3,a0b,h]
theorem b2n (d:a0l) (h1:d.safe.length<1000000) (h2:d.wait.length<1000000):PEv Tryz.prog 84 [Arg.enc d] (.g (a0z d)):=by
 refine a0e mixed d5A Tryz.func84 f4v f4w (by kernel_rfl) (by simp [a0z]) (by simp) ?_
 simp [s84,h1,h2,a0z]
open Go Go.Proofs
def idxOf {α:Type} (p:α->Bool):Nat->List α->Int
 |_,[]=>-1
 |i,x::r=>if p x=true then i else idxOf p (i+1) r
theorem b0A (g:FuncId) (caps:List AC) (p:List UInt8->Bool) (l:List (List UInt8)) (hl:l.length<1000000) (b0o:∀c∈caps,b6K c) (b8V:a4m a0t (caps.map .c)=some (caps.map .c))
  (hp:∀s∈l,PEv Tryz.prog g (.c (.str s)::caps.map .c) (.c (.raw (.bool (p s))))) :
  PEv Tryz.prog 173 [.c (.sl .brw false (a0a l)),.c (.fn g caps)] (.c (.raw (.int .i64 (idxOf p 0 l)))):=by
 have hF:a1k Tryz.prog []:=trivial
 refine a0e mixed hF Tryz.func173 e4W e4X (by kernel_rfl) (by simp) (by simpa using b0o) ?_
 simp [e4V]
 refine a1C (fun n st=>∃i:Nat,i<=l.length/\n=l.length-i/\st.s 0=.c (.sl .brw false (a0a l))/\st.s 1=.c (.fn g caps)/\st.s 7=.c (.raw (.int .i64 l.length))/\st.s 8=.c (.raw (.int .i64 i))/\st.H=a0t/\
  idxOf p i (l.drop i)=idxOf p 0 l) l.length ⟨0,by simp⟩ ?_
 rintro n st ⟨i,hi,rfl,h0,h1,h7,h8,hH,hx⟩
 by_cases hlt:i<l.length
 ·have hw:IntKind.wrap .i64 ((i:Int)+1)=((i+1:Nat):Int):=by rw [a0d]<;>omega
  have hev:=hp l[i] (List.getElem_mem hlt)
  simp [b9e,h0,h1,h7,h8,hH,hlt]
  refine a0T hev ?_ (by simp) (by simp) ?_
  ·simp [hH,b8V]
  ·rw [List.drop_eq_getElem_cons hlt,idxOf] at hx
   simp [b9e,h0,h1,h7,h8,hH,hlt,hw]
   refine ⟨fun e=>by rw [if_pos e] at hx;exact hx,fun e=>⟨_,?_,i+1,?_,rfl,rfl,?_⟩⟩
   ·omega
   ·omega
   ·rw [if_neg (by simp [e])] at hx;exact hx
 ·simp [b9e,h0,h1,h7,h8,hH,hlt]
  rw [<-hx,List.drop_eq_nil_of_le (by omega)]
  rfl
theorem b0B (g:FuncId) (caps:List AC) (p:a4o->Bool) (l:List a4o) (hl:l.length<1000000) (b0o:∀c∈caps,b6K c) (b8V:a4m a0t (caps.map .c)=some (caps.map .c))
  (hp:∀s∈l,PEv Tryz.prog g (.g [.raw (.int .i64 s.at_),.str s.text]::caps.map .c) (.c (.raw (.bool (p s))))) :
  PEv Tryz.prog 174 [.c (.sl .brw false (a0a l)),.c (.fn g caps)] (.c (.raw (.int .i64 (idxOf p 0 l)))):=by
 have hF:a1k Tryz.prog []:=trivial
 refine a0e mixed hF Tryz.func174 e4Z e40 (by kernel_rfl) (by simp) (by simpa using b0o) ?_
 simp [e4Y]
 refine a1C (fun n st=>∃i:Nat,i<=l.length/\n=l.length-i/\st.s 0=.c (.sl .brw false (a0a l))/\st.s 1=.c (.fn g caps)/\st.s 7=.c (.raw (.int .i64 l.length))/\st.s 8=.c (.raw (.int .i64 i))/\st.H=a0t/\
  idxOf p i (l.drop i)=idxOf p 0 l) l.length ⟨0,by simp⟩ ?_
 rintro n st ⟨i,hi,rfl,h0,h1,h7,h8,hH,hx⟩
 by_cases hlt:i<l.length
 ·have hw:IntKind.wrap .i64 ((i:Int)+1)=((i+1:Nat):Int):=by rw [a0d]<;>omega
  have hev:=hp l[i] (List.getElem_mem hlt)
  simp [b9f,h0,h1,h7,h8,hH,hlt]
  refine a0T hev ?_ (by simp) (by simp) ?_
  ·simp [hH,b8V]
  ·rw [List.drop_eq_getElem_cons hlt,idxOf] at hx
   simp [b9f,h0,h1,h7,h8,hH,hlt,hw]
   refine ⟨fun e=>by rw [if_pos e] at hx;exact hx,fun e=>⟨_,?_,i+1,?_,rfl,rfl,?_⟩⟩
   ·omega
   ·omega
   ·rw [if_neg (by simp [e])] at hx;exact hx
 ·simp [b9f,h0,h1,h7,h8,hH,hlt]
  rw [<-hx,List.drop_eq_nil_of_le (by omega)]
  rfl
theorem a3P {α:Type} (p:α->Bool):∀(l:List α) (i:Nat),(0<=idxOf p i l)↔l.any p=true
 |[],i=>by simp [idxOf]
 |x::r,i=>by
  rw [idxOf,List.any_cons]
  by_cases h:p x=true
  ·simp [h]
  ·rw [if_neg h,a3P p r (i+1)]
   simp [h]
open Go Go.Proofs
theorem d5C (e:a0B):PEv Tryz.prog 219 [Arg.enc e] (.g [.raw (.int .i64 e.site),.raw (.int .i64 e.seq)]):=by
 refine a0e mixed (F:=[]) trivial Tryz.func219 e6O e6P (by kernel_rfl) (by simp) (by simp) ?_
 simp [e6N]
def b2o:List AV->Option (Prop×AV):=t1 (fun _=>True) fun e:a0B=>.g [.raw (.int .i64 e.site),.raw (.int .i64 e.seq)]
@[simp] theorem d5D {l:List AV}:b2o l=(t1 (fun _=>True) fun e:a0B=>.g [.raw (.int .i64 e.site),.raw (.int .i64 e.seq)]) l:=(rfl)
def FV0:CT:=(219,.pu b2o)::[]
theorem b9v:a1k Tryz.prog FV0:=⟨a0n fun e _=>d5C e,trivial⟩
@[simp] theorem d1n:a0b FV0 219=some (.pu b2o):=(rfl)
@[simp] theorem e1D {n:Nat} (h:(n==219)=false):a0b FV0 n=a0b ([]:CT) n:=by
 simp only [Bool.or_eq_false_iff,beq_eq_false_iff_ne,ne_eq] at h
 simp [FV0,a0b,h]
@[simp] def ckH (sz ah:List (List Int×Int)) (all:Int):List HO:=[.var (0,1) 192 [.mr (0,2),.mr (0,3),.raw (.int .i64 all)],.map (0,2) 2 (mI sz),.map (0,3) 0 (mI ah)]
def wrB (sz:List (List Int×Int)) (e:a0B):Bool:=decide (e=⟨0,0,0⟩)||decide (e.i<(lk sz [e.site,e.seq]).getD 0)
theorem b1b (sz ah:List (List Int×Int)) (all:Int) (e:a0B):VC Tryz.prog 195 [.c (.pt (0,1) 0 0),.g (Enc.row e)] (ckH sz ah all) (.c (.raw (.bool (wrB sz e)))) (ckH sz ah all):=by
 refine a5O mixed b9v Tryz.func195 e6I e6J (by kernel_rfl) (by simp) (a1t ?_)
 obtain ⟨a,b,c⟩:=e
 by_cases h:(a0B.mk a b c)=⟨0,0,0⟩
 ·cases h
  simp [e1g,wrB]
 ·simp [e1g,wrB,h]
  rintro rfl rfl rfl
  exact (h rfl).elim
@[simp] def vkH (sz ah:List (List Int×Int)) (all:Int):List HO:=.var (0,0) 188 [.pt (0,1) 0 0]::ckH sz ah all
theorem c6r (sz ah:List (List Int×Int)) (all:Int) (e:a0B):VC Tryz.prog 197 [.g (Enc.row e),.c (.pt (0,0) 0 0)] (vkH sz ah all) (.c (.raw (.bool (!wrB sz e)))) (vkH sz ah all):=by
 refine a5O mixed b9v Tryz.func197 e6L e6M (by kernel_rfl) (by simp) (a1t ?_)
 simp [e6K]
 refine a4w (b1b sz ah all e) ?_
 simp
theorem c3h (sz ah:List (List Int×Int)) (all:Int) (l:List a0B) (hl:l.length<4611686018427387904):VC Tryz.prog 220 [.c (.sl .old false (a0a l)),.c (.fn 197 [.pt (0,0) 0 0])] (vkH sz ah all) (.c (.raw (.int .i64 (idxOf (fun e=>!wrB sz e) 0 l)))) (vkH sz ah all):=by
 refine a5O mixed b9v Tryz.func220 e9T e9U (by kernel_rfl) (by simp) (a1t ?_)
 simp [e9S]
 refine vl (fun i:Nat=>i<=l.length/\idxOf (fun e=>!wrB sz e) i (l.drop i)=idxOf (fun e=>!wrB sz e) 0 l)
  (fun i=>mkS [(0,.c (.sl .old false (a0a l))),(1,.c (.fn 197 [.pt (0,0) 0 0])),(7,.c (.raw (.int .i64 l.length))),(8,.c (.raw (.int .i64 i)))] (vkH sz ah all)) (fun i=>l.length-i) 0 (by simp) (a0c rfl ?_) ?_
 ·simp
 rintro i ⟨hi,hx⟩ J hJ
 by_cases hlt:i<l.length
 ·have hw:IntKind.wrap .i64 ((i:Int)+1)=((i+1:Nat):Int):=by rw [a0d]<;>omega
  rw [List.drop_eq_getElem_cons hlt,idxOf] at hx
  simp [b9s,hlt]
  refine a4w (c6r sz ah all l[i]) ?_
  simp [b9s,hw]
  refine ⟨fun e=>by rw [<-hx,if_pos (by simp [e])],fun e=>hJ (i+1) ⟨by omega,by rw [<-hx,if_neg (by simp [e])]⟩ (by omega) _ (a0c rfl ?_)⟩
  simp
 ·simp [b9s,hlt]
  rw [<-hx,List.drop_eq_nil_of_le (by omega)]
  rfl
theorem c3i (sz ah:List (List Int×Int)) (all:Int) (l:List a0B) (hl:l.length<4611686018427387904):VC Tryz.prog 196 [.c (.sl .old false (a0a l)),.c (.fn 197 [.pt (0,0) 0 0])] (vkH sz ah all) (.c (.raw (.bool (l.any fun e=>!wrB sz e)))) (vkH sz ah all):=by
 refine a5O mixed b9v Tryz.func196 e9a e9b (by kernel_rfl) (by simp) (a1t ?_)
 simp [e89]
 refine a4w (c3h sz ah all l hl) ?_
 simp
 rw [Bool.eq_iff_iff,decide_eq_true_iff,a3P]
open Go
def a00:Nat->Nat->List UInt8
 |0,n=>[UInt8.ofNat n]
 |k+1,n=>if n<128 then [UInt8.ofNat n] else UInt8.ofNat (n%128+128)::a00 k (n/128)
def a0g (n:Nat):List UInt8:=a00 9 n
def a3y:Nat->Nat->Nat->List UInt8->Option (Nat×List UInt8)
 |0,_,_,_=>none
 |_+1,_,_,[]=>none
 |k+1,m,acc,b::s=>
  if 128<=b.toNat then a3y k (m*128) (acc+(b.toNat%128)*m) s
  else if 268435456<acc+(b.toNat%128)*m\/(1<m/\b.toNat=0) then none else some (acc+(b.toNat%128)*m,s)
def takeN (s:List UInt8):Option (Nat×List UInt8):=a3y 5 1 0 s
def a1e (s:List UInt8):Nat×List UInt8×Int:=match takeN s with|some (n,r)=>(n,r,0)|none=>(0,[],7)
def a0L (s:List UInt8):List UInt8×List UInt8×Int:=
 match takeN s with
 |some (n,r)=>if n<=r.length then (r.take n,r.drop n,0) else ([],[],7)
 |none=>([],[],7)
def ofF:Nat->List UInt8->Nat
 |h,[]=>h
 |h,b::s=>ofF ((h*263+b.toNat+7)%4294967291) s
def ofN (s:List UInt8):Nat:=ofF 1 s
def a1x (h:Nat):List UInt8:=[UInt8.ofNat (h/16777216),UInt8.ofNat (h/65536),UInt8.ofNat (h/256),UInt8.ofNat h]
def a03 (s:List UInt8):List UInt8:=if 700<s.length then [] else a0g s.length++a1x (ofN (a0g s.length++s))++s
def a2L (s:List UInt8):Option (List UInt8×List UInt8):=
 match takeN s with
 |some (n,r)=>if 700<n\/r.length<n+4 then none else
  if r.take 4=a1x (ofN (s.take (s.length-r.length)++(r.take (4+n)).drop 4)) then some ((r.take (4+n)).drop 4,r.drop (4+n)) else none
 |none=>none
instance f7i:Enc UInt8 where
 w:=1
 row b:=[.raw (.int .u8 b.toNat)]
 dec|[.raw (.int .u8 n)]=>if 0<=n/\n<256 then some (UInt8.ofNat n.toNat) else none|_=>none
 a3J a:=by
  have:=a.toNat_lt
  simp
  omega
 a3x {r a} h:=by
  split at h
  ·split at h
   ·rename_i n hn
    cases h
    simp
    omega
   ·cases h
  ·cases h
 len _:=rfl
 old a c hc:=by simp at hc;subst hc;exact .raw _
 ret a c hc:=by simp at hc;subst hc;exact .raw _
@[simp] theorem f2U (b:UInt8):Enc.row b=[AC.raw (.int .u8 b.toNat)]:=rfl
@[simp] theorem f8w:Enc.w UInt8=1:=rfl
theorem a8H:∀(l:List UInt8) (v:Int),a3a (a0a l++[[.raw (.int .u8 v)]])=some (l++[UInt8.ofNat v.toNat])
 |[],v=>rfl
 |b::l,v=>by
  show ((a3a (a0a l++[[.raw (.int .u8 v)]])).map fun x=>UInt8.ofNat ((b.toNat:Int)).toNat::x)=_
  rw [a8H l v]
  simp
theorem a6O (l:List UInt8) (v:Int) (h0:0<=v) (h1:v<256):a0a l++[[.raw (.int .u8 v)]]=a0a (l++[UInt8.ofNat v.toNat]):=by
 rw [<-a4b]
 congr 1
 simp
 omega
theorem b1c (v:Int) (h0:0<=v) (h1:v<256):[[AC.raw (.int .u8 v)]]=a0a [UInt8.ofNat v.toNat]:=by
 have:=a6O [] v h0 h1
 simpa using this
attribute [simp] a8H
theorem a7t {n:Int} (h1:0<=n) (h2:n<=255):IntKind.wrap .u8 n=n:=by
 simp [IntKind.wrap,IntKind.bits,IntKind.signed]
 omega
theorem b5G {n:Int} (h1:0<=n):IntKind.wrap .u8 n=n%256:=by
 simp [IntKind.wrap,IntKind.bits,IntKind.signed]
theorem b1d {n:Int}:IntKind.wrap .u32 n=n%4294967296:=by
 simp [IntKind.wrap,IntKind.bits,IntKind.signed]
theorem a2z {n:Int}:IntKind.wrap .u64 n=n%18446744073709551616:=by
 simp [IntKind.wrap,IntKind.bits,IntKind.signed]
open Go Go.Proofs
theorem c6s (n:Int):PEv Tryz.prog 229 [.c (.raw (.int .i64 n))] (.c (.raw (.bool (decide (0<=n/\n<=268435456))))):=by
 refine a0e mixed (F:=[]) trivial Tryz.func229 e98 e99 (by kernel_rfl) (by simp) (by simp) ?_
 by_cases h1:0<=n
 ·by_cases h2:n<=268435456
  ·simp [d5u,h1,h2]
  ·simp [d5u,h1,h2]
 ·simp [d5u,h1]
theorem a5i {k n:Nat} (h:128<=n):a00 (k+1) n=UInt8.ofNat (n%128+128)::a00 k (n/128):=by
 rw [a00,if_neg (by omega)]
theorem a5j {k n:Nat} (h:n<128):a00 k n=[UInt8.ofNat n]:=by
 cases k with
 |zero=>rfl
 |succ k=>rw [a00,if_pos h]
theorem a6P (n:Nat) (hn:n<9223372036854775808):PEv Tryz.prog 192 [.c (.raw (.int .i64 n))] (.c (.str (a0g n))):=by
 refine a0e mixed (F:=[]) trivial Tryz.func192 e82 e83 (by kernel_rfl) (by simp) (by simp) ?_
 simp [e81]
 refine a1C (fun q st=>∃(k m:Nat) (L:List UInt8) (c:AC),q=k/\k<=9/\m<128^k/\L++a00 k m=a0g n/\st.s 0=.c (.raw (.int .i64 m))/\st.s 3=.c c/\a8Y st.H 5 1 0 c L/\L.length+k<=9/\a0D st.H st.T) 9
  ⟨9,n,[],.raw (.slice none 0 0),rfl,by omega,by omega,rfl,by simp,by simp,a8Y.nil,by simp,by simp;exact a1i.mono (by omega)⟩ ?_
 rintro q st ⟨k,m,L,c,hq,hk,hm,hL,k0,k3,hc,hl,hf⟩
 have hfu:∀k d,st.T<=k->st.H (k,d)=.a0h:=hf
 have hm9:m<9223372036854775808:=Nat.lt_of_lt_of_le hm (Nat.le_trans (Nat.pow_le_pow_right (by omega) hk) (by decide))
 by_cases hlt:128<=m
 ·have hlt':(128:Int)<=m:=by omega
  cases k with
  |zero=>simp at hm;omega
  |succ k=>
   have c1:(m:Int).tmod 128=((m%128:Nat):Int):=by rw [Int.tmod_eq_emod_of_nonneg (by omega)];omega
   have c2:(m:Int).tdiv 128=((m/128:Nat):Int):=by rw [Int.tdiv_eq_ediv_of_nonneg (by omega)];omega
   obtain ⟨r,hr,hr2⟩:∃r:Nat,m%128=r/\r<128:=⟨m%128,rfl,by omega⟩
   obtain ⟨p,hp⟩:∃p:Nat,m/128=p:=⟨m/128,rfl⟩
   rw [hr] at c1
   rw [hp] at c2
   have e1:IntKind.wrap .i64 ((r:Int)+128)=(r:Int)+128:=by rw [a0d]<;>omega
   have e2:IntKind.wrap .u8 ((r:Int)+128)=(r:Int)+128:=a7t (by omega) (by omega)
   have e4:((r:Int)+128).toNat=r+128:=by omega
   have e3:IntKind.wrap .i64 (p:Int)=p:=by rw [a0d]<;>omega
   have hm2:p<128^k:=by rw [Nat.pow_succ] at hm;omega
   have hL2:(L++[UInt8.ofNat (r+128)])++a00 k p=a0g n:=by rw [<-hL,a5i hlt,hr,hp];simp
   rcases hc with ⟨rfl,rfl⟩|⟨id,rfl,b0p,hid⟩
   ·simp (maxDischargeDepth:=8) [b5F,k0,k3,hlt',hfu,c1,c2,e1,e2,e3,Nat.le_add_right_of_le]
    refine ⟨k,by omega,by omega,p,hm2,[UInt8.ofNat (r+128)],by simpa using hL2,rfl,a8Y.so rfl (Nat.zero_le _) ?_,(by have:=hl;simp at this ⊢;omega),?_⟩
    ·simp [b1c ((r:Int)+128) (by omega) (by omega),e4]
    ·repeat' (first|exact hf.mono (by first|omega|(simp<;>omega))|(refine a0D.set' ?_ (by first|omega|(simp<;>omega))))
   ·obtain ⟨f1,f2,f3⟩:=hf.arr hid
    simp (maxDischargeDepth:=8) [b5F,k0,k3,hlt',hfu,c1,c2,e1,e2,e3,f1,f2,hid,Nat.le_add_right_of_le]
    refine ⟨⟨by omega,by omega⟩,k,by omega,by omega,p,hm2,L++[UInt8.ofNat (r+128)],hL2,rfl,a8Y.so (by simp) (Nat.zero_le _) ?_,by simp;omega,?_⟩
    ·simp [a6O L ((r:Int)+128) (by omega) (by omega),e4]
    ·repeat' (first|exact hf.mono (by first|omega|(simp<;>omega))|(refine a0D.set' ?_ (by first|omega|(simp<;>omega))))
 ·have hlt':¬(128:Int)<=m:=by omega
  have e2:IntKind.wrap .u8 (m:Int)=m:=a7t (by omega) (by omega)
  rw [a5j (by omega)] at hL
  rcases hc with ⟨rfl,rfl⟩|⟨id,rfl,b0p,hid⟩
  ·simp (maxDischargeDepth:=8) [b5F,k0,k3,hlt',hfu,e2,Nat.le_add_right_of_le]
   simpa using hL
  ·obtain ⟨f1,f2,f3⟩:=hf.arr hid
   simp (maxDischargeDepth:=8) [b5F,k0,k3,hlt',hfu,e2,f1,f2,hid,List.take_of_length_le,hL,Nat.le_add_right_of_le]
   omega
def b2p:List AV->Option (Prop×AV):=t1 (fun _=>True) fun n:Int=>.c (.raw (.bool (decide (0<=n/\n<=268435456))))
@[simp] theorem d5E {l:List AV}:b2p l=(t1 (fun _=>True) fun n:Int=>.c (.raw (.bool (decide (0<=n/\n<=268435456))))) l:=(rfl)
def b2q:List AV->Option (Prop×AV):=t1 (fun n=>0<=n/\n<9223372036854775808) fun n:Int=>.c (.str (a0g n.toNat))
@[simp] theorem d5F {l:List AV}:b2q l=(t1 (fun n=>0<=n/\n<9223372036854775808) fun n:Int=>.c (.str (a0g n.toNat))) l:=(rfl)
def FN0:CT:=(229,.pu b2p)::(192,.pu b2q)::[]
theorem c7O:a1k Tryz.prog FN0:=⟨a0n fun n _=>c6s n,
 a0n fun n h=>by have:=a6P n.toNat (by omega);rwa [Int.toNat_of_nonneg h.1] at this,trivial⟩
@[simp] theorem d1o:a0b FN0 229=some (.pu b2p):=(rfl)
@[simp] theorem d1p:a0b FN0 192=some (.pu b2q):=(rfl)
@[simp] theorem e1E {n:Nat} (h:(n==229||n==192)=false):a0b FN0 n=a0b ([]:CT) n:=by
 simp only [Bool.or_eq_false_iff,beq_eq_false_iff_ne,ne_eq] at h
 simp [FN0,a0b,h]
theorem b9w (l:List UInt8) (i:Nat) (h:i<l.length):bts l (i:Int)=(l[i].toNat:Int):=by simp [bts,List.getD,h]
theorem c7P (b:UInt8):d4b .u8 (b.toNat:Int) 127=((b.toNat%128:Nat):Int):=by
 have hb:=b.toNat_lt
 have h1:((BitVec.ofInt 8 (b.toNat:Int)) &&&(BitVec.ofInt 8 127)).toNat=b.toNat%128:=by
  rw [BitVec.toNat_and]
  have e1:(BitVec.ofInt 8 (b.toNat:Int)).toNat=b.toNat:=by simp
  have e2:(BitVec.ofInt 8 127).toNat=2^7-1:=by decide
  rw [e1,e2,Nat.and_two_pow_sub_one_eq_mod]
 show IntKind.wrap .u8 (((BitVec.ofInt 8 (b.toNat:Int)) &&&(BitVec.ofInt 8 127)).toNat:Int)=_
 rw [h1]
 exact a7t (by omega) (by omega)
theorem c3j {acc x i:Nat} (ha:acc<128^i) (hi:i<=4) (hx:x<128):ior .i64 (acc:Int) ((x*128^i:Nat):Int)=((acc+x*128^i:Nat):Int):=by
 have hp:128^i<=128^4:=Nat.pow_le_pow_right (by omega) hi
 have h4:(128:Nat)^4=268435456:=by decide
 have hxi:x*128^i<=127*268435456:=Nat.mul_le_mul (by omega) (by omega)
 have e1:(BitVec.ofInt 64 (acc:Int)).toNat=acc:=by simp;omega
 have e2:(BitVec.ofInt 64 ((x*128^i:Nat):Int)).toNat=x*128^i:=by
  generalize x*128^i=y at hxi
  simp;omega
 have h1:((BitVec.ofInt 64 (acc:Int)) |||(BitVec.ofInt 64 ((x*128^i:Nat):Int))).toNat=acc+x*128^i:=by
  rw [BitVec.toNat_or,e1,e2]
  have h7:(128:Nat)^i=2^(7*i):=by rw [show (128:Nat)=2^7 from rfl,<-Nat.pow_mul]
  rw [h7] at ha ⊢
  rw [Nat.mul_comm x,Nat.or_comm,<-Nat.two_pow_add_eq_or_of_lt ha,Nat.add_comm]
 show IntKind.wrap .i64 (((BitVec.ofInt 64 (acc:Int)) |||(BitVec.ofInt 64 ((x*128^i:Nat):Int))).toNat:Int)=_
 rw [h1]
 exact a0d (by omega) (by omega)
theorem take_at {k m acc:Nat} {s:List UInt8} {i:Nat} (h:i<s.length):a3y (k+1) m acc (s.drop i) =
  if 128<=s[i].toNat then a3y k (m*128) (acc+(s[i].toNat%128)*m) (s.drop (i+1))
  else if 268435456<acc+(s[i].toNat%128)*m\/(1<m/\s[i].toNat=0) then none else some (acc+(s[i].toNat%128)*m,s.drop (i+1)):=by
 rw [List.drop_eq_getElem_cons h,a3y]
def a3A (s:List UInt8):AV:=.t [(false,[.raw (.int .i64 (a1e s).1)]),(false,[.str (a1e s).2.1]),(false,[.raw (.int .i64 (a1e s).2.2)])]
theorem a2A {s r:List UInt8} {n:Nat} (h:some (n,r)=takeN s):a3A s=.t [(false,[.raw (.int .i64 n)]),(false,[.str r]),(false,[.raw (.int .i64 0)])]:=by simp [a3A,a1e,<-h]
theorem a4h {s:List UInt8} (h:none=takeN s):a3A s=.t [(false,[.raw (.int .i64 0)]),(false,[.str []]),(false,[.raw (.int .i64 7)])]:=by simp [a3A,a1e,<-h]
theorem a7X (s:List UInt8) (hs:s.length<4611686018427387904):PEv Tryz.prog 221 [.c (.str s)] (a3A s):=by
 refine a0e mixed c7O Tryz.func221 e9W e9X (by kernel_rfl) (by simp [a3A]) (by simp) ?_
 have hmin:(if (5:Int)<s.length then (5:Int) else s.length)=((min s.length 5:Nat):Int):=by split<;>omega
 simp [e9V,hmin]
 refine a1C (fun q st=>∃(i acc:Nat),i<=min s.length 5/\q=5-i/\acc<128^i/\st.s 0=.c (.str s)/\st.s 2=.c (.raw (.int .i64 acc))/\st.s 8=.c (.raw (.int .i64 (min s.length 5:Nat)))/\st.s 9=.c (.raw (.int .i64 i))/\
   a3y (5-i) (128^i) acc (s.drop i)=takeN s/\a0D st.H st.T) 5 ⟨0,0,by omega,rfl,by simp,by simp,by simp,by simp,by simp,rfl,by simp;exact a1i.mono (by omega)⟩ ?_
 rintro q st ⟨i,acc,hi,rfl,hacc,k0,k2,k8,k9,hT,hf⟩
 have hfu:∀k d,st.T<=k->st.H (k,d)=.a0h:=hf
 by_cases hlt:i<min s.length 5
 ·have hlt2:i<s.length:=by omega
  have hlt':((i:Int)<(min s.length 5:Nat)):=by omega
  have hk:5-i=(4-i)+1:=by omega
  rw [hk,take_at hlt2] at hT
  have hb:=s[i].toNat_lt
  obtain ⟨x,hx,hx2⟩:∃x:Nat,s[i].toNat%128=x/\x<128:=⟨_,rfl,by omega⟩
  have c1:=b9w s i hlt2
  have c2:=c7P s[i]
  rw [hx] at c2 hT
  have c3:IntKind.wrap .i64 (x:Int)=x:=by rw [a0d]<;>omega
  have c4:IntKind.wrap .i64 (7*(i:Int))=7*(i:Int):=by rw [a0d]<;>omega
  have h7:(128:Nat)^i=2^(7*i):=by rw [show (128:Nat)=2^7 from rfl,<-Nat.pow_mul]
  have c1t:min (7*(i:Int)).toNat (IntKind.bits .i64)=7*i:=by
   have:IntKind.bits .i64=64:=rfl
   omega
  have hp:128^i<=128^4:=Nat.pow_le_pow_right (by omega) (by omega)
  have h4:(128:Nat)^4=268435456:=by decide
  have hxi:x*128^i<=127*268435456:=Nat.mul_le_mul (by omega) (by omega)
  have c5:=c3j hacc (i:=i) (by omega) hx2
  have c6:IntKind.wrap .i64 ((x:Int)*2^(7*i))=((x*128^i:Nat):Int):=by
   rw [h7]
   have:((x:Int)*2^(7*i))=((x*2^(7*i):Nat):Int):=by push_cast;rfl
   rw [this,<-h7]
   exact a0d (by omega) (by omega)
  have e2:IntKind.wrap .i64 ((i:Int)+1)=(i:Int)+1:=by rw [a0d]<;>omega
  obtain ⟨y,hy⟩:∃y,x*128^i=y:=⟨_,rfl⟩
  rw [hy] at c5 c6 hT hxi
  obtain ⟨z,hz⟩:∃z,acc+y=z:=⟨_,rfl⟩
  rw [hz] at c5 hT
  simp [c3a,k0,k2,k8,k9,hlt',hlt2,hfu,c1,c2,c3,c4,c1t,c5,c6,e2]
  have hp1:0<i->1<128^i:=fun h=>Nat.one_lt_pow (by omega) (by omega)
  refine ⟨by omega,fun hge=>?_,fun hl3=>?_⟩
  ·rw [if_pos (by omega)] at hT
   refine ⟨5-(i+1),by omega,i+1,by omega,rfl,z,?_,rfl,rfl,?_,hf.mono (by omega)⟩
   ·rw [Nat.pow_succ,<-hz,<-hy]
    have:x*128^i<=127*128^i:=Nat.mul_le_mul_right _ (by omega)
    omega
   ·rw [show 5-(i+1)=4-i by omega,Nat.pow_succ]
    exact hT
  ·rw [if_neg (by omega)] at hT
   refine ⟨fun h1=>⟨fun h2=>⟨fun h3=>?_,fun h3=>⟨by omega,?_⟩⟩,fun h2=>⟨by omega,?_⟩⟩,fun h1=>?_⟩
   ·rw [if_pos (.inr ⟨hp1 h2,h3⟩)] at hT
    rw [a4h hT]
    simp
   ·rw [if_neg (by omega)] at hT
    rw [a2A hT]
    simp
   ·subst h2
    rw [if_neg (by simp;omega)] at hT
    rw [a2A hT]
    simp
   ·rw [if_pos (.inl (by omega))] at hT
    rw [a4h hT]
    simp
 ·have hlt':¬((i:Int)<(min s.length 5:Nat)):=by omega
  have hi2:i=min s.length 5:=by omega
  have hn:none=takeN s:=by
   rw [<-hT]
   by_cases h5:s.length<5
   ·rw [List.drop_eq_nil_of_le (by omega),show 5-i=(4-i)+1 by omega,a3y]
   ·rw [show 5-i=0 by omega,a3y]
  simp [c3a,k0,k2,k8,k9,hlt']
  rw [a4h hn]
  simp
def a2o (s:List UInt8):AV:=.t [(false,[.str (a0L s).1]),(false,[.str (a0L s).2.1]),(false,[.raw (.int .i64 (a0L s).2.2)])]
def b2r:List AV->Option (Prop×AV):=t1 (fun s=>s.length<4611686018427387904) fun s:List UInt8=>a3A s
@[simp] theorem d5G {l:List AV}:b2r l=(t1 (fun s=>s.length<4611686018427387904) fun s:List UInt8=>a3A s) l:=(rfl)
def FN1:CT:=(221,.pu b2r)::FN0
theorem c3k:a1k Tryz.prog FN1:=⟨a0n fun s h=>a7X s h,c7O⟩
@[simp] theorem d1q:a0b FN1 221=some (.pu b2r):=(rfl)
@[simp] theorem e1F {n:Nat} (h:(n==221)=false):a0b FN1 n=a0b FN0 n:=by
 simp only [Bool.or_eq_false_iff,beq_eq_false_iff_ne,ne_eq] at h
 simp [FN1,a0b,h]
theorem a1W {s r:List UInt8} {n:Nat} (h:takeN s=some (n,r)):n<=268435456/\r.length<s.length:=by
 have go:∀(k m acc:Nat) (s r:List UInt8) (n:Nat),a3y k m acc s=some (n,r)->n<=268435456/\r.length<s.length:=by
  intro k
  induction k with
  |zero=>intro m acc s r n h;cases h
  |succ k ih=>
   intro m acc s r n h
   cases s with
   |nil=>cases h
   |cons b s=>
    rw [a3y] at h
    split at h
    ·have:=ih _ _ _ _ _ h
     simp;omega
    ·split at h
     ·cases h
     ·cases h
      simp;omega
 exact go _ _ _ _ _ _ h
theorem a6z (s:List UInt8) (hs:s.length<4611686018427387904):PEv Tryz.prog 240 [.c (.str s)] (a2o s):=by
 refine a0e mixed c3k Tryz.func240 f0t f0u (by kernel_rfl) (by simp [a2o]) (by simp) ?_
 cases hn:takeN s with
 |none=>
  simp [d5x,hs,a4h hn.symm]
  simp [a2o,a0L,hn]
 |some q=>
  obtain ⟨n,r⟩:=q
  obtain ⟨h1,h2⟩:=a1W hn
  by_cases hl:n<=r.length
  ·simp [d5x,hs,a2A hn.symm,hl]
   simp [a2o,a0L,hn,hl]
  ·simp [d5x,hs,a2A hn.symm,hl]
   simp [a2o,a0L,hn,hl]
theorem b1e (s:List UInt8) (hs:s.length<140737488355328):PEv Tryz.prog 199 [.c (.str s)] (.c (.str (a0g s.length++s))):=by
 refine a0e mixed c3k Tryz.func199 e9g e9h (by kernel_rfl) (by simp) (by simp) ?_
 have h9:∀(k n:Nat),(a00 k n).length<=k+1:=by
  intro k
  induction k with
  |zero=>intro n;simp [a00]
  |succ k ih=>
   intro n
   rw [a00]
   split
   ·simp
   ·have:=ih (n/128);simp;omega
 have:=h9 9 s.length
 simp [e9f,show s.length<9223372036854775808 by omega]
 unfold a0g
 omega
open Go Go.Proofs Go.Shelf
def lays105_ren:Go.Shelf.Ren:=⟨fun|105=>138|212=>137|99=>179|165=>180|166=>181|170=>182|169=>183|263=>177|264=>178|206=>206|240=>207|241=>208|276=>223|277=>224|n=>n,fun|9=>9|3=>3|4=>4|20=>20|0=>0|46=>168|109=>169|5=>5|72=>210|76=>214|51=>201|146=>202|53=>204|148=>205|70=>208|37=>65|75=>213|127=>233|164=>247|80=>70|n=>n,fun  |n=>n⟩
theorem lays105:Lays.n105 Tryz.prog lays105_ren where
 mixed:=by kernel_rfl
 f99:=Tryz.func179.trans (congrArg some (by kernel_rfl))
 f105:=Tryz.func138.trans (congrArg some (by kernel_rfl))
 f165:=Tryz.func180.trans (congrArg some (by kernel_rfl))
 f166:=Tryz.func181.trans (congrArg some (by kernel_rfl))
 f169:=Tryz.func183.trans (congrArg some (by kernel_rfl))
 f170:=Tryz.func182.trans (congrArg some (by kernel_rfl))
 f206:=Tryz.func206.trans (congrArg some (by kernel_rfl))
 f212:=Tryz.func137.trans (congrArg some (by kernel_rfl))
 f240:=Tryz.func207.trans (congrArg some (by kernel_rfl))
 f241:=Tryz.func208.trans (congrArg some (by kernel_rfl))
 f263:=Tryz.func177.trans (congrArg some (by kernel_rfl))
 f264:=Tryz.func178.trans (congrArg some (by kernel_rfl))
 f276:=Tryz.func223.trans (congrArg some (by kernel_rfl))
 f277:=Tryz.func224.trans (congrArg some (by kernel_rfl))
 t0:=Tryz.underlying0
 a0:=Tryz.isAgg0
 z0:=Tryz.sizeOf0
 v0:=Tryz.zeroValue0
 t3:=Tryz.underlying3
 a3:=Tryz.isAgg3
 z3:=Tryz.sizeOf3
 v3:=Tryz.zeroValue3
 t4:=Tryz.underlying4
 a4:=Tryz.isAgg4
 z4:=Tryz.sizeOf4
 v4:=Tryz.zeroValue4
 t5:=Tryz.underlying5
 a5:=Tryz.isAgg5
 z5:=Tryz.sizeOf5
 v5:=Tryz.zeroValue5
 t9:=Tryz.underlying9
 a9:=Tryz.isAgg9
 z9:=Tryz.sizeOf9
 v9:=Tryz.zeroValue9
 t20:=Tryz.underlying20
 a20:=Tryz.isAgg20
 z20:=Tryz.sizeOf20
 v20:=Tryz.zeroValue20
 t37:=Tryz.underlying65
 a37:=Tryz.isAgg65
 z37:=Tryz.sizeOf65
 v37:=Tryz.zeroValue65
 t46:=Tryz.underlying168
 a46:=Tryz.isAgg168
 z46:=Tryz.sizeOf168
 v46:=Tryz.zeroValue168
 t51:=Tryz.underlying201
 a51:=Tryz.isAgg201
 z51:=Tryz.sizeOf201
 v51:=Tryz.zeroValue201
 t53:=Tryz.underlying204
 a53:=Tryz.isAgg204
 z53:=Tryz.sizeOf204
 v53:=Tryz.zeroValue204
 t70:=Tryz.underlying208
 a70:=Tryz.isAgg208
 z70:=Tryz.sizeOf208
 v70:=Tryz.zeroValue208
 t72:=Tryz.underlying210
 a72:=Tryz.isAgg210
 z72:=Tryz.sizeOf210
 v72:=Tryz.zeroValue210
 t75:=Tryz.underlying213
 a75:=Tryz.isAgg213
 z75:=Tryz.sizeOf213
 v75:=Tryz.zeroValue213
 t76:=Tryz.underlying214
 a76:=Tryz.isAgg214
 z76:=Tryz.sizeOf214
 v76:=Tryz.zeroValue214
 t109:=Tryz.underlying169
 a109:=Tryz.isAgg169
 z109:=Tryz.sizeOf169
 v109:=Tryz.zeroValue169
 t127:=Tryz.underlying233
 a127:=Tryz.isAgg233
 z127:=Tryz.sizeOf233
 v127:=Tryz.zeroValue233
 t146:=Tryz.underlying202
 a146:=Tryz.isAgg202
 z146:=Tryz.sizeOf202
 v146:=Tryz.zeroValue202
 t148:=Tryz.underlying205
 a148:=Tryz.isAgg205
 z148:=Tryz.sizeOf205
 v148:=Tryz.zeroValue205
 t164:=Tryz.underlying247
 a164:=Tryz.isAgg247
 z164:=Tryz.sizeOf247
 v164:=Tryz.zeroValue247
theorem b2s:Builder.Extra Tryz.prog lays105_ren where
 sizeBuilder:=by kernel_rfl
 liesBuilder:=by kernel_rfl
 t5:=Tryz.underlying5
 a5:=Tryz.isAgg5
 z5:=Tryz.sizeOf5
 v5:=Tryz.zeroValue5
 infoByte:=by kernel_rfl
 cellsByte:=by kernel_rfl
 sizeByte:=by kernel_rfl
 neB5:=by decide
open Go Go.Proofs Go.RowKit
def a1X (l:List Int):List UInt8:=l.flatMap fun n=>a0g n.toNat
theorem b2t {f:FuncId} {args:List AV} {b:List UInt8} (hp:PEv Tryz.prog f args (.c (.str b))) {w:World} (hI:Inv Tryz.prog w) {vs:Array Value} (hs:vs.size=args.length)
  (hr:∀(k:Nat) x,args[k]?=some x->a3o w (Fr (Ctx.of w hI fun _ _=>True) a0t a0Q) a0t a0Q x (vs.getD k undef)) :
  Calls Tryz.prog f vs w fun e w'=>e=.returned (.string ⟨b.toArray⟩)/\RowKit.Below w.heap.size w w':=by
 refine (hp.2 w hI (fun _ _=>True) vs hs hr (fun k=>(0,k)) (fun i j h=>by simpa using h)).mono ?_
 rintro e w' ⟨v,rfl,ρ,hH,hR⟩
 have hv:=a1U (a0C hR)
 subst hv
 exact ⟨rfl,hH.below⟩
theorem b7k (n:Int) (h0:0<=n) (h1:n<9223372036854775808) {w:World} (hI:Inv Tryz.prog w) :
  Calls Tryz.prog 192 #[.int .i64 n] w fun e w'=>e=.returned (.string ⟨(a0g n.toNat).toArray⟩)/\RowKit.Below w.heap.size w w':=by
 have:=a6P n.toNat (by omega)
 rw [Int.toNat_of_nonneg h0] at this
 refine b2t this hI rfl fun k y hk=>by
  match k,hk with
  |0,hk=>
   simp at hk
   subst hk
   exact .c _ _ (.raw _)
theorem a0G (n:Nat):(a0g n).length<=10:=by
 have h9:∀(k n:Nat),(a00 k n).length<=k+1:=by
  intro k
  induction k with
  |zero=>intro n;simp [a00]
  |succ k ih=>
   intro n
   rw [a00]
   split
   ·simp
   ·have:=ih (n/128);simp;omega
 exact h9 9 n
theorem a2U (l:List Int):(a1X l).length<=10*l.length:=by
 induction l with
 |nil=>simp [a1X]
 |cons x l ih=>
  have:=a0G x.toNat
  simp [a1X] at ih ⊢
  omega
theorem b1f {T e:TypeId} {B b:Nat} {p:Value} {bs:List Value} {W W':World} (h:Lib.BuilderAtF T e B b p bs W) (hb:Below W.heap.size W W'):Lib.BuilderAtF T e B b p bs W':=by
 have hlt:b<W.heap.size:=by
  obtain ⟨_,v,hv,_⟩:=h
  exact (Array.getElem?_eq_some_iff.1 hv).1
 obtain ⟨h1,v,hv,hown,hne⟩:=h
 refine ⟨h1,v,by rw [hb.block b hlt];exact hv,?_,hne⟩
 refine hown.kept (row:=none) ⟨hb.os,hb.tape,hb.output,hb.size,fun k hk _=>hb.block k hk⟩ (Classical.em _)
theorem b7l {T e:TypeId} {B b:Nat} {bs:List Value} {W W':World} (h:Lib.IsBuilderF T e B b bs W) (hb:Below W.heap.size W W'):Lib.IsBuilderF T e B b bs W':=
 h.elim (fun x=>.inl (b1f x hb)) (fun x=>.inr (b1f x hb))
theorem a5P (l:List Int) (hl:l.length<1000000) (h0:∀n∈l,0<=n/\n<9223372036854775808) (w:World) (hI:Inv Tryz.prog w) (v:Value) (a:Option Addr) (c:Nat) (hv:v=.slice a l.length c)
  (ha:∀(i:Nat) (hi:i<l.length),∃b o:Nat,a=some ⟨b,o,none⟩/\b<w.heap.size/\w.cell? ⟨b,o+i,none⟩=some (.int .i64 l[i])) :
  Calls Tryz.prog 167 #[v] w fun e w'=>e=.returned (.string ⟨(a1X l).toArray⟩)/\RowKit.Below w.heap.size w w':=by
 subst hv
 go_enter Tryz.func167,Tryz.ntmps167
 go_wp2
 go_loopw [8] (fun i wr=>∃k:Nat,k<=l.length/\i=.int .i64 k/\Lib.IsBuilderF 210 5 w.heap.size w.heap.size (Lib.byteCells (a1X (l.take k))) wr/\Below w.heap.size w wr) (fun i _=>l.length-(Go.RowKit.intOf i).toNat)
 case atStart=>
  exact ⟨0,Nat.zero_le _,rfl,Lib.IsBuilderF.of (Lib.fresh_isBuilder 210 5 w),(Below.refl _ w).alloc (Nat.le_refl _) _⟩
 case round=>
  obtain ⟨k,hk,rfl,hB,hbw⟩:=hrel
  by_cases hlt:k<l.length
  ·obtain ⟨b,o,rfl,hb,hc⟩:=ha k hlt
   have hc':wr.cell? ⟨b,o+k,none⟩=some (.int .i64 l[k]):=by
    rw [hbw.cell (p:=⟨b,o+k,none⟩) hb];exact hc
   have hm:l[k]∈l:=List.getElem_mem hlt
   obtain ⟨hn0,hn1⟩:=h0 _ hm
   go_wp2_with (go_at_call 192;refine (b7k l[k] hn0 hn1 (hI.keep hbw)).mono ?_)
   rintro e W1 ⟨rfl,b1⟩
   have hlen:=a2U (l.take k)
   rw [List.length_take] at hlen
   have f8A:=a0G l[k].toNat
   have hsz:wr.heap.size<=W1.heap.size:=b1.size
   have hsz0:w.heap.size<=wr.heap.size:=hbw.size
   go_wp2_with (go_at_call 181;refine (Any.Builder_WriteString_f {lays105 with} b2s w.heap.size w.heap.size _ ⟨(a0g l[k].toNat).toArray⟩ W1 (b7l hB b1) (by rw [Lib.byteCells_length];show _+(a0g l[k].toNat).length<=_;omega) (by omega)).mono ?_)
   rintro e W2 ⟨rfl,h2,b2⟩
   go_wp2
   go_roundw
   case rel=>
    refine ⟨_,_,_,_,_,_,_,_,_,?_,rfl⟩
    refine ⟨k+1,by omega,by go_num,?_,(hbw.trans (b1.mono hsz0)).trans b2⟩
    have:a1X (l.take (k+1))=a1X (l.take k)++a0g l[k].toNat:=by
     rw [<-List.take_append_getElem hlt,a1X,List.flatMap_append]
     simp [a1X]
    rw [this,Lib.byteCells_append]
    exact Or.inr h2
   case measure=>
    simp [Go.RowKit.intOf]
    omega
  ·have hke:k=l.length:=by omega
   subst hke
   rw [List.take_length] at hB
   have hsz0:w.heap.size<=wr.heap.size:=hbw.size
   go_wp2_with (go_at_call 183;refine (Any.Builder_String_any_f {lays105 with} b2s w.heap.size w.heap.size _ wr hB hsz0).mono ?_)
   rintro e W1 ⟨rfl,_,b1⟩
   go_wp2
   go_ret
   exact ⟨rfl,hbw.trans b1⟩
theorem b1g (l:List Int) (hl:l.length<1000000) (h0:∀n∈l,0<=n/\n<9223372036854775808):PEv Tryz.prog 167 [Arg.enc l] (.c (.str (a1X l))):=by
 refine b7a (by kernel_rfl) (by simp) fun w hI F vs hs hr=>?_
 have h1:=a0C (hr 0 _ rfl)
 generalize hv:vs.getD 0 undef=v at h1
 rw [vs1 hs hv]
 generalize hx:a0a l=xs at h1
 cases h1 with
 |a1b _ _ _ hn=>
  cases l with
  |cons=>cases hx
  |nil=>
   rcases hn with rfl|⟨a,rfl⟩
   ·exact a5P [] hl h0 w hI _ none 0 rfl (fun i hi=>by simp at hi)
   ·exact a5P [] hl h0 w hI _ (some a) 0 rfl (fun i hi=>by simp at hi)
 |sl _ _ _ b o cap sz us hb hF hcap hcl hrow hcell hone hrel=>
  subst hx
  have hlen:(a0a l).length=l.length:=by simp [a0a]
  refine a5P l hl h0 w hI _ (some ⟨b,o,none⟩) cap (by rw [hlen]) fun i hi=>⟨b,o,rfl,hb,?_⟩
  have hri:(a0a l)[i]?=some [AC.raw (.int .i64 l[i])]:=by simp [a0a,hi]
  have hsz:1=sz:=hrow i _ hri
  subst hsz
  rw [hcell i (by rw [hlen];omega)]
  have:=a0J (hrel i 0 _ _ hri rfl)
  simp at this
  rw [this]
open Go Go.Proofs
structure W32 where
 n:Nat
instance f2V:Arg W32 where
 enc w:=.c (.raw (.int .u32 w.n))
 dec|.c (.raw (.int .u32 (.ofNat n)))=>some ⟨n⟩|_=>none
 a1j {x a} h:=by split at h<;>simp_all;subst h;rfl
@[simp] theorem f0F (w:W32):Arg.enc w=.c (.raw (.int .u32 w.n)):=rfl
@[simp] theorem f0G (n:Nat):(Arg.dec (.c (.raw (.int .u32 (n:Int)))):Option W32)=some ⟨n⟩:=rfl
theorem b9x {h i:Nat} {s:List UInt8} (hi:i<s.length):ofF h (s.drop i)=ofF ((h*263+s[i].toNat+7)%4294967291) (s.drop (i+1)):=by
 rw [List.drop_eq_getElem_cons hi,ofF]
theorem c7Q:∀(s:List UInt8) (h:Nat),h<4294967291->ofF h s<4294967291
 |[],h,hh=>hh
 |b::s,h,hh=>c7Q s _ (Nat.mod_lt _ (by omega))
theorem c3l (s:List UInt8) (hs:s.length<4611686018427387904):PEv Tryz.prog 218 [.c (.str s)] (.c (.raw (.int .u32 (ofN s)))):=by
 refine a0e mixed (F:=[]) trivial Tryz.func218 e9Q e9R (by kernel_rfl) (by simp) (by simp) ?_
 simp [e9P]
 refine a1C (fun q st=>∃(i h:Nat),i<=s.length/\q=s.length-i/\h<4294967291/\st.s 0=.c (.str s)/\st.s 3=.c (.raw (.int .u64 h))/\st.s 6=.c (.raw (.int .i64 s.length))/\st.s 7=.c (.raw (.int .i64 i))/\ofF h (s.drop i)=ofN s) s.length
  ⟨0,1,by omega,rfl,by omega,by simp,by simp,by simp,by simp,rfl⟩ ?_
 rintro q st ⟨i,h,hi,rfl,hh,k0,k3,k6,k7,hT⟩
 by_cases hlt:i<s.length
 ·have hlt':(i:Int)<s.length:=by omega
  have hb:=s[i].toNat_lt
  rw [b9x hlt] at hT
  have c1:=b9w s i hlt
  obtain ⟨b,hb2,hb3⟩:∃b:Nat,s[i].toNat=b/\b<256:=⟨_,rfl,hb⟩
  rw [hb2] at c1 hT
  have c2:IntKind.wrap .u64 ((h:Int)*263)=(h:Int)*263:=by rw [a2z];omega
  have c3:IntKind.wrap .u64 (b:Int)=b:=by rw [a2z];omega
  have c4:IntKind.wrap .u64 ((h:Int)*263+b)=(h:Int)*263+b:=by rw [a2z];omega
  have c5:IntKind.wrap .u64 ((h:Int)*263+b+7)=(h:Int)*263+b+7:=by rw [a2z];omega
  obtain ⟨z,hz,hz2⟩:∃z:Nat,(h*263+b+7)%4294967291=z/\z<4294967291:=⟨_,rfl,Nat.mod_lt _ (by omega)⟩
  have c6:((h:Int)*263+b+7).tmod 4294967291=z:=by rw [Int.tmod_eq_emod_of_nonneg (by omega)];omega
  have e2:IntKind.wrap .i64 ((i:Int)+1)=(i:Int)+1:=by rw [a0d]<;>omega
  rw [hz] at hT
  simp [c29,k0,k3,k6,k7,hlt,c1,c2,c3,c4,c5,c6,e2]
  exact ⟨s.length-(i+1),by omega,i+1,by omega,rfl,z,hz2,rfl,rfl,hT⟩
 ·have:i=s.length:=by omega
  subst this
  have hr:h=ofN s:=by rw [<-hT];simp [ofF]
  have c7:IntKind.wrap .u32 (h:Int)=h:=by rw [b1d];omega
  rw [hr] at c7 k3
  simp [c29,k0,k3,k6,k7,c7]
theorem c6t (h:Nat) (hh:h<4294967296):PEv Tryz.prog 217 [.c (.raw (.int .u32 h))] (.c (.str (a1x h))):=by
 refine a0e mixed (F:=[]) trivial Tryz.func217 e9N e9O (by kernel_rfl) (by simp) (by simp) ?_
 have c:∀k:Nat,(h:Int).fdiv (2^k)=((h/2^k:Nat):Int):=fun k=>by
  rw [Int.fdiv_eq_ediv_of_nonneg _ (by exact Int.pow_nonneg (by omega))]
  push_cast
  rfl
 have w8:∀n:Nat,IntKind.wrap .u8 (n:Int)=((n%256:Nat):Int):=fun n=>by rw [b5G (by omega)];omega
 have u8:∀n:Nat,UInt8.ofNat (n%256)=UInt8.ofNat n:=fun n=>by
  apply UInt8.toNat_inj.1
  simp
 have b:IntKind.bits .u32=32:=rfl
 have c1:=c 24
 have c2:=c 16
 have c3:=c 8
 simp only [show (2:Nat)^24=16777216 from rfl,show (2:Nat)^16=65536 from rfl,show (2:Nat)^8=256 from rfl,show (2:Int)^24=16777216 from rfl,show (2:Int)^16=65536 from rfl,show (2:Int)^8=256 from rfl] at c1 c2 c3
 obtain ⟨x1,h1⟩:∃x,h/16777216=x:=⟨_,rfl⟩
 obtain ⟨x2,h2⟩:∃x,h/65536=x:=⟨_,rfl⟩
 obtain ⟨x3,h3⟩:∃x,h/256=x:=⟨_,rfl⟩
 rw [h1] at c1
 rw [h2] at c2
 rw [h3] at c3
 have v0:=w8 h
 have v1:=w8 x1
 have v2:=w8 x2
 have v3:=w8 x3
 obtain ⟨y0,g0⟩:∃x,h%256=x:=⟨_,rfl⟩
 obtain ⟨y1,g1⟩:∃x,x1%256=x:=⟨_,rfl⟩
 obtain ⟨y2,g2⟩:∃x,x2%256=x:=⟨_,rfl⟩
 obtain ⟨y3,g3⟩:∃x,x3%256=x:=⟨_,rfl⟩
 rw [g0] at v0
 rw [g1] at v1
 rw [g2] at v2
 rw [g3] at v3
 simp [e9M,b,c1,c2,c3,v0,v1,v2,v3]
 rw [a1x,h1,h2,h3,<-u8 x1,<-u8 x2,<-u8 x3,<-u8 h,g0,g1,g2,g3]
def c6u:List AV->Option (Prop×AV):=t1 (fun s=>s.length<4611686018427387904) fun s:List UInt8=>a2o s
def c6v:List AV->Option (Prop×AV):=t1 (fun s=>s.length<140737488355328) fun s:List UInt8=>.c (.str (a0g s.length++s))
def b2u:List AV->Option (Prop×AV):=t1 (fun s=>s.length<4611686018427387904) fun s:List UInt8=>.c (.raw (.int .u32 (ofN s)))
@[simp] theorem d5H {l:List AV}:b2u l=(t1 (fun s=>s.length<4611686018427387904) fun s:List UInt8=>.c (.raw (.int .u32 (ofN s)))) l:=(rfl)
def b2v:List AV->Option (Prop×AV):=t1 (fun w=>w.n<4294967296) fun w:W32=>.c (.str (a1x w.n))
@[simp] theorem d5I {l:List AV}:b2v l=(t1 (fun w=>w.n<4294967296) fun w:W32=>.c (.str (a1x w.n))) l:=(rfl)
def FS0:CT:=(240,.pu c6u)::(199,.pu c6v)::(218,.pu b2u)::(217,.pu b2v)::FN1
theorem c3m:a1k Tryz.prog FS0:=⟨a0n fun s h=>a6z s h,
 a0n fun s h=>b1e s h,
 a0n fun s h=>c3l s h,
 a0n fun w h=>c6t w.n h,c3k⟩
@[simp] theorem d1r:a0b FS0 218=some (.pu b2u):=(rfl)
@[simp] theorem d1s:a0b FS0 217=some (.pu b2v):=(rfl)
@[simp] theorem e1G {n:Nat} (h:(n==240||n==199||n==218||n==217)=false):a0b FS0 n=a0b FN1 n:=by
 simp only [Bool.or_eq_false_iff,beq_eq_false_iff_ne,ne_eq] at h
 simp [FS0,a0b,h]
theorem b1h (s:List UInt8):ofN s<4294967296:=Nat.lt_trans (c7Q s 1 (by omega)) (by omega)
theorem a6d (n:Nat):(a0g n).length<=10:=by
 have h9:∀(k n:Nat),(a00 k n).length<=k+1:=by
  intro k
  induction k with
  |zero=>intro n;simp [a00]
  |succ k ih=>
   intro n
   rw [a00]
   split
   ·simp
   ·have:=ih (n/128);simp;omega
 exact h9 9 n
theorem b1i (s:List UInt8) (hs:s.length<4611686018427387904):PEv Tryz.prog 194 [.c (.str s)] (.c (.str (a03 s))):=by
 refine a0e mixed c3m Tryz.func194 e87 e88 (by kernel_rfl) (by simp) (by simp) ?_
 have hb:=a6d s.length
 by_cases h7:700<s.length
 ·have h7':(700:Int)<s.length:=by omega
  simp [e1t,h7',a03,h7]
 ·have h7':¬(700:Int)<s.length:=by omega
  have l1:(a1x (ofN (a0g s.length++s))).length=4:=rfl
  simp [e1t,h7',a03,h7,b1h,l1,show s.length<9223372036854775808 by omega]
  omega
def a1v (s:List UInt8):AV:=match a2L s with
 |some (t,r)=>.t [(false,[.str t]),(false,[.str r]),(false,[.raw (.bool true)])]
 |none=>.t [(false,[.str []]),(false,[.str []]),(false,[.raw (.bool false)])]
theorem a9O (s:List UInt8) (hs:s.length<4611686018427387904):PEv Tryz.prog 204 [.c (.str s)] (a1v s):=by
 refine a0e mixed c3m Tryz.func204 e9o e9p (by kernel_rfl) (by unfold a1v;split<;>simp) (by simp) ?_
 cases hn:takeN s with
 |none=>
  simp [c9M,hs,a4h hn.symm]
  simp [a1v,a2L,hn]
 |some q=>
  obtain ⟨n,r⟩:=q
  obtain ⟨h1,h2⟩:=a1W hn
  by_cases h7:700<n
  ·have h7':(700:Int)<n:=by omega
   simp [c9M,hs,a2A hn.symm,h7']
   simp [a1v,a2L,hn,h7]
  ·have h7':¬(700:Int)<n:=by omega
   have e1:IntKind.wrap .i64 ((r.length:Int)-4)=(r.length:Int)-4:=by rw [a0d]<;>omega
   by_cases h8:r.length<n+4
   ·have h8':(r.length:Int)-4<n:=by omega
    simp [c9M,hs,a2A hn.symm,h7',e1,h8']
    simp [a1v,a2L,hn,h7,h8]
   ·have h8':¬(r.length:Int)-4<n:=by omega
    have e2:IntKind.wrap .i64 ((s.length:Int)-r.length)=((s.length-r.length:Nat):Int):=by rw [a0d]<;>omega
    have e3:IntKind.wrap .i64 (4+(n:Int))=((4+n:Nat):Int):=by rw [a0d]<;>omega
    obtain ⟨a,ha⟩:∃a,s.length-r.length=a:=⟨_,rfl⟩
    obtain ⟨b,hb⟩:∃b,4+n=b:=⟨_,rfl⟩
    rw [ha] at e2
    rw [hb] at e3
    have e4:a<=s.length:=by omega
    have e5:b<=r.length:=by omega
    have e6:4<=b:=by omega
    have e7:4<=r.length:=by omega
    by_cases hc:r.take 4=a1x (ofN (s.take a++(r.take b).drop 4))
    ·simp [c9M,hs,a2A hn.symm,h7',e1,h8',e2,e3,e4,e5,e6,e7,b1h,hc]
     refine ⟨by omega,by omega,by omega,by omega,?_⟩
     simp [a1v,a2L,hn,h7,h8,ha,hb,hc]
    ·simp [c9M,hs,a2A hn.symm,h7',e1,h8',e2,e3,e4,e5,e6,e7,b1h,hc]
     refine ⟨by omega,by omega,by omega,by omega,?_⟩
     simp [a1v,a2L,hn,h7,h8,ha,hb,hc]
def c6w:List AV->Option (Prop×AV):=t1 (fun s=>s.length<4611686018427387904) fun s:List UInt8=>.c (.str (a03 s))
def c6x:List AV->Option (Prop×AV):=t1 (fun s=>s.length<4611686018427387904) fun s:List UInt8=>a1v s
def FS1:CT:=(194,.pu c6w)::(204,.pu c6x)::FS0
theorem d5J:a1k Tryz.prog FS1:=⟨a0n fun s h=>b1i s h,
 a0n fun s h=>a9O s h,c3m⟩
@[simp] theorem e1H {n:Nat} (h:(n==194||n==204)=false):a0b FS1 n=a0b FS0 n:=by
 simp only [Bool.or_eq_false_iff,beq_eq_false_iff_ne,ne_eq] at h
 simp [FS1,a0b,h]
open Go Go.Proofs Go.Shelf
def c0E:Go.Shelf.Ren:=⟨fun|15=>231|17=>226|20=>237|n=>n,fun|0=>0|3=>3|4=>4|9=>9|21=>21|23=>197|n=>n,fun n=>n⟩
theorem lays17:LaysGw.n17 Tryz.prog c0E where
 mixed:=by kernel_rfl
 f15:=Tryz.func231.trans (congrArg some (by kernel_rfl))
 f17:=Tryz.func226.trans (congrArg some (by kernel_rfl))
 f20:=Tryz.func237.trans (congrArg some (by kernel_rfl))
 t0:=Tryz.underlying0
 a0:=Tryz.isAgg0
 z0:=Tryz.sizeOf0
 v0:=Tryz.zeroValue0
 i0:=by kernel_rfl
 t3:=Tryz.underlying3
 a3:=Tryz.isAgg3
 z3:=Tryz.sizeOf3
 v3:=Tryz.zeroValue3
 i3:=by kernel_rfl
 t4:=Tryz.underlying4
 a4:=Tryz.isAgg4
 z4:=Tryz.sizeOf4
 v4:=Tryz.zeroValue4
 i4:=by kernel_rfl
 t9:=Tryz.underlying9
 a9:=Tryz.isAgg9
 z9:=Tryz.sizeOf9
 v9:=Tryz.zeroValue9
 i9:=by kernel_rfl
 t21:=Tryz.underlying21
 a21:=Tryz.isAgg21
 z21:=Tryz.sizeOf21
 v21:=Tryz.zeroValue21
 i21:=by kernel_rfl
 t23:=Tryz.underlying197
 a23:=Tryz.isAgg197
 z23:=Tryz.sizeOf197
 v23:=Tryz.zeroValue197
 i23:=by kernel_rfl
open Go Go.Proofs Go.Shelf
def lays195_ren:Go.Shelf.Ren:=⟨fun|195=>190|n=>n,fun|9=>9|3=>3|0=>0|4=>4|n=>n,fun  |n=>n⟩
theorem lays195:Lays.n195 Tryz.prog lays195_ren where
 mixed:=by kernel_rfl
 f195:=Tryz.func190.trans (congrArg some (by kernel_rfl))
 t0:=Tryz.underlying0
 a0:=Tryz.isAgg0
 z0:=Tryz.sizeOf0
 v0:=Tryz.zeroValue0
 t3:=Tryz.underlying3
 a3:=Tryz.isAgg3
 z3:=Tryz.sizeOf3
 v3:=Tryz.zeroValue3
 t4:=Tryz.underlying4
 a4:=Tryz.isAgg4
 z4:=Tryz.sizeOf4
 v4:=Tryz.zeroValue4
 t9:=Tryz.underlying9
 a9:=Tryz.isAgg9
 z9:=Tryz.sizeOf9
 v9:=Tryz.zeroValue9
open Go Go.Proofs
def a2h (r:Int):Bool:=r==10||(decide (32<=r)&&decide (r<=1114111)&&r != 127&&r != 65533&&(decide (r<=55295)||decide (57344<=r)))
instance f8x:Arg (Int×Unit) where
 enc r:=.c (.raw (.int .i32 r.1))
 dec|.c (.raw (.int .i32 n))=>some (n,())|_=>none
 a1j {x a} h:=by split at h<;>simp_all;subst h;rfl
@[simp] theorem f7j (n:Int):(Arg.dec (.c (.raw (.int .i32 n))):Option (Int×Unit))=some (n,()):=rfl
@[simp] theorem f7k (r:Int×Unit):Arg.enc r=.c (.raw (.int .i32 r.1)):=rfl
theorem c3n (r:Int):PEv Tryz.prog 232 [.c (.raw (.int .i32 r))] (.c (.raw (.bool (a2h r)))):=by
 refine a0e mixed (F:=[]) trivial Tryz.func232 f0c f0d (by kernel_rfl) (by simp) (by simp) ?_
 by_cases h0:r=10
 ·simp [c5e,h0,a2h]
 ·by_cases h1:r<32
  ·simp [c5e,h0,h1,a2h,show ¬32<=r by omega]
  ·by_cases h2:1114111<r
   ·simp [c5e,h0,h1,h2,a2h,show ¬r<=1114111 by omega]
   ·by_cases h3:r=127
    ·subst h3;simp [c5e,a2h]
    ·by_cases h4:r=65533
     ·subst h4;simp [c5e,a2h]
     ·by_cases h5:r<=55295
      ·simp [c5e,h0,h1,h2,h3,h4,h5,a2h]
       omega
      ·by_cases h6:57344<=r
       ·simp [c5e,h0,h1,h2,h3,h4,h5,h6,a2h]
        omega
       ·simp [c5e,h0,h1,h2,h3,h4,h5,h6,a2h]
def b2w:List AV->Option (Prop×AV):=t1 (fun _=>True) fun r:Int×Unit=>.c (.raw (.bool (a2h r.1)))
@[simp] theorem d5K {l:List AV}:b2w l=(t1 (fun _=>True) fun r:Int×Unit=>.c (.raw (.bool (a2h r.1)))) l:=(rfl)
def FO0:CT:=(232,.pu b2w)::FS1
theorem c3o:a1k Tryz.prog FO0:=⟨a0n fun r _=>c3n r.1,d5J⟩
@[simp] theorem d1t:a0b FO0 232=some (.pu b2w):=(rfl)
@[simp] theorem e1I {n:Nat} (h:(n==232)=false):a0b FO0 n=a0b FS1 n:=by
 simp only [Bool.or_eq_false_iff,beq_eq_false_iff_ne,ne_eq] at h
 simp [FO0,a0b,h]
theorem c0F (r:Int):PEv Tryz.prog 227 [.c (.raw (.int .i32 r))] (.c (.raw (.bool (!a2h r)))):=by
 refine a0e mixed c3o Tryz.func227 e93 e94 (by kernel_rfl) (by simp) (by simp) ?_
 simp [e92]
def a36 (s:List UInt8):Bool:=!decide (0<=Lib.idxFunc (fun r=>!a2h (r:Int)) true ⟨s.toArray⟩)
theorem b0C {f:FuncId} {args:List AV} {b:Bool} (hp:PEv Tryz.prog f args (.c (.raw (.bool b)))) {w:World} (hI:Inv Tryz.prog w) {vs:Array Value} (hs:vs.size=args.length)
  (hr:∀(k:Nat) x,args[k]?=some x->a3o w (Fr (Ctx.of w hI fun _ _=>True) a0t a0Q) a0t a0Q x (vs.getD k undef)) :
  Calls Tryz.prog f vs w fun e w'=>e=.returned (.bool b)/\RowKit.Below w.heap.size w w':=by
 refine (hp.2 w hI (fun _ _=>True) vs hs hr (fun k=>(0,k)) (fun i j h=>by simpa using h)).mono ?_
 rintro e w' ⟨v,rfl,ρ,hH,hR⟩
 have hv:=a0J (a0C hR)
 subst hv
 exact ⟨rfl,hH.below⟩
theorem b0D (s:List UInt8):PEv Tryz.prog 226 [.c (.str s),.c (.fn 227 [])] (.c (.raw (.bool (decide (0<=Lib.idxFunc (fun r=>!a2h (r:Int)) true ⟨s.toArray⟩))))):=by
 refine b7b (by kernel_rfl) (by simp) fun w hI F vs hs hr=>?_
 have h0:=a1U (a0C (hr 0 _ rfl))
 have h1:vs.getD 1 undef=.func (.func 227) #[] #[]:=by
  have:=a0C (hr 1 _ rfl)
  generalize vs.getD 1 undef=u at this
  cases this with
  |fn _ _ us hl _=>
   obtain rfl:us=#[]:=by
    cases us;simp at hl;subst hl;rfl
   rfl
 rw [vs2 hs h0 h1]
 refine Any.strings_ContainsFunc_grows lays17 227 #[] (fun args w=>a8x (by kernel_rfl) args w) (fun r=>!a2h (r:Int)) ⟨s.toArray⟩ w ?_
 intro W x _ hb
 exact b0C (c0F (x:Int)) (hI.keep hb) rfl fun k y hk=>by
  match k,hk with
  |0,hk=>
   simp at hk
   subst hk
   exact .c _ _ (.raw _)
theorem b1j (s:List UInt8):PEv Tryz.prog 215 [.c (.str s)] (.c (.raw (.bool (a36 s)))):=by
 refine a0e mixed c3o Tryz.func215 e9H e9I (by kernel_rfl) (by simp) (by simp) ?_
 simp [e9G]
 refine a0T (b0D s) (by simp) (by simp) (by simp) ?_
 simp [a36]
def a05 (s:List UInt8):Nat:=Lib.runeCount ⟨s.toArray⟩
theorem b5H (s:List UInt8) (hs:s.length<9223372036854775807):PEv Tryz.prog 190 [.c (.str s)] (.c (.raw (.int .i64 (a05 s)))):=by
 refine b7b (by kernel_rfl) (by simp) fun w hI F vs hs' hr=>?_
 have h0:=a1U (a0C (hr 0 _ rfl))
 rw [vs1 hs' h0]
 refine (Any.utf8_RuneCountInString lays195 ⟨s.toArray⟩ w (by simpa [ByteArray.size] using hs)).mono ?_
 rintro e w' ⟨he,pos,rfl⟩
 exact ⟨he,(RowKit.Below.refl _ w).alloc (Nat.le_refl _) _⟩
def c6y:List AV->Option (Prop×AV):=t1 (fun _=>True) fun s:List UInt8=>.c (.raw (.bool (a36 s)))
def b2x:List AV->Option (Prop×AV):=t1 (fun s=>s.length<9223372036854775807) fun s:List UInt8=>.c (.raw (.int .i64 (a05 s)))
@[simp] theorem d5L {l:List AV}:b2x l=(t1 (fun s=>s.length<9223372036854775807) fun s:List UInt8=>.c (.raw (.int .i64 (a05 s)))) l:=(rfl)
def FO1:CT:=(215,.pu c6y)::(190,.pu b2x)::FO0
theorem d5M:a1k Tryz.prog FO1:=⟨a0n fun s _=>b1j s,
 a0n fun s h=>b5H s h,c3o⟩
@[simp] theorem d1u:a0b FO1 190=some (.pu b2x):=(rfl)
@[simp] theorem e1J {n:Nat} (h:(n==215||n==190)=false):a0b FO1 n=a0b FO0 n:=by
 simp only [Bool.or_eq_false_iff,beq_eq_false_iff_ne,ne_eq] at h
 simp [FO1,a0b,h]
theorem b5I (n:Int):PEv Tryz.prog 155 [.c (.raw (.int .i64 n))] (.c (.raw (.bool (decide (1<=n/\n<=8))))):=by
 refine a0e mixed (F:=[]) trivial Tryz.func155 e8g e8h (by kernel_rfl) (by simp) (by simp) ?_
 by_cases h1:1<=n
 ·by_cases h2:n<=8
  ·simp [d5n,h1,h2]
  ·simp [d5n,h1,h2]
 ·simp [d5n,h1]
theorem c3p (n:Int):PEv Tryz.prog 241 [.c (.raw (.int .i64 n))] (.c (.raw (.bool false))):=by
 refine a0e mixed (F:=[]) trivial Tryz.func241 f0w f0x (by kernel_rfl) (by simp) (by simp) ?_
 simp [f0v]
def c5f (a b:Int):Int:=if a<b then -1 else if b<a then 1 else 0
def nameB (site seq:Int):Bool:=decide (1<=site/\site<=8)&&decide (1<=seq/\seq<=268435456)
def b2y:List AV->Option (Prop×AV):=t1 (fun _=>True) fun n:Int=>.c (.raw (.bool (decide (1<=n/\n<=8))))
@[simp] theorem d5N {l:List AV}:b2y l=(t1 (fun _=>True) fun n:Int=>.c (.raw (.bool (decide (1<=n/\n<=8))))) l:=(rfl)
def b2z:List AV->Option (Prop×AV):=t1 (fun _=>True) fun n:Int=>.c (.raw (.bool false))
@[simp] theorem d5O {l:List AV}:b2z l=(t1 (fun _=>True) fun n:Int=>.c (.raw (.bool false))) l:=(rfl)
def FO2:CT:=(155,.pu b2y)::(241,.pu b2z)::FO1
theorem c3q:a1k Tryz.prog FO2:=⟨a0n fun n _=>b5I n,
 a0n fun n _=>c3p n,d5M⟩
@[simp] theorem d1v:a0b FO2 155=some (.pu b2y):=(rfl)
@[simp] theorem d1w:a0b FO2 241=some (.pu b2z):=(rfl)
@[simp] theorem e1K {n:Nat} (h:(n==155||n==241)=false):a0b FO2 n=a0b FO1 n:=by
 simp only [Bool.or_eq_false_iff,beq_eq_false_iff_ne,ne_eq] at h
 simp [FO2,a0b,h]
theorem d5P (a b:Int):PEv Tryz.prog 239 [.c (.raw (.int .i64 a)),.c (.raw (.int .i64 b))] (.c (.raw (.int .i64 (c5f a b)))):=by
 refine a0e mixed c3q Tryz.func239 f0r f0s (by kernel_rfl) (by simp) (by simp) ?_
 by_cases h1:a<b
 ·simp [d5w,h1,c5f]
 ·by_cases h2:b<a
  ·simp [d5w,h1,h2,c5f]
  ·simp [d5w,h1,h2,c5f]
theorem b5J (a b:Int):PEv Tryz.prog 157 [.c (.raw (.int .i64 a)),.c (.raw (.int .i64 b))] (.c (.raw (.bool (nameB a b)))):=by
 refine a0e mixed c3q Tryz.func157 e8l e8m (by kernel_rfl) (by simp) (by simp) ?_
 by_cases h1:1<=a/\a<=8
 ·by_cases h2:1<=b
  ·by_cases h3:b<=268435456
   ·simp [d1j,h1,h2,h3,nameB]
   ·simp [d1j,h1,h2,h3,nameB]
  ·simp [d1j,h1,h2,nameB]
 ·simp [d1j,h1,nameB]
open Go Go.Proofs
def b2A:List AV->Option (Prop×AV):=t2 (fun _ _=>True) fun a b:Int=>.c (.raw (.int .i64 (c5f a b)))
@[simp] theorem d5Q {l:List AV}:b2A l=(t2 (fun _ _=>True) fun a b:Int=>.c (.raw (.int .i64 (c5f a b)))) l:=(rfl)
def b2B:List AV->Option (Prop×AV):=t2 (fun _ _=>True) fun a b:Int=>.c (.raw (.bool (nameB a b)))
@[simp] theorem d5R {l:List AV}:b2B l=(t2 (fun _ _=>True) fun a b:Int=>.c (.raw (.bool (nameB a b)))) l:=(rfl)
def FO3:CT:=(239,.pu b2A)::(157,.pu b2B)::FO2
theorem c7R:a1k Tryz.prog FO3:=⟨a0R fun a b _=>d5P a b,
 a0R fun a b _=>b5J a b,c3q⟩
@[simp] theorem d1x:a0b FO3 239=some (.pu b2A):=(rfl)
@[simp] theorem d1y:a0b FO3 157=some (.pu b2B):=(rfl)
@[simp] theorem e1L {n:Nat} (h:(n==239||n==157)=false):a0b FO3 n=a0b FO2 n:=by
 simp only [Bool.or_eq_false_iff,beq_eq_false_iff_ne,ne_eq] at h
 simp [FO3,a0b,h]
def orI:List Int->Int
 |[]=>0
 |x::l=>if x=0 then orI l else x
theorem c6z (l:List Int) (hl:l.length<4611686018427387904):PEv Tryz.prog 238 [.c (.sl .brw false (a0a l))] (.c (.raw (.int .i64 (orI l)))):=by
 refine a0e mixed (F:=[]) trivial Tryz.func238 f0p f0q (by kernel_rfl) (by simp) (by simp) ?_
 simp [f0o]
 refine a1C (fun n st=>∃i:Nat,i<=l.length/\n=l.length-i/\st.s 6=.c (.sl .brw false (a0a l))/\st.s 3=.c (.raw (.int .i64 0))/\st.s 2=.c (.raw (.int .i64 0))/\st.s 7=.c (.raw (.int .i64 l.length))/\st.s 8=.c (.raw (.int .i64 i))/\orI (l.drop i)=orI l) l.length ⟨0,by simp⟩ ?_
 rintro n st ⟨i,hi,rfl,h6,h3,h2,h7,h8,hp⟩
 by_cases hlt:i<l.length
 ·have hlt':(i:Int)<l.length:=by omega
  have hw:IntKind.wrap .i64 ((i:Int)+1)=((i+1:Nat):Int):=by rw [a0d]<;>omega
  have hd:l.drop i=l[i]::l.drop (i+1):=by rw [List.drop_eq_getElem_cons hlt]
  by_cases h0:l[i]=0
  ·simp [b9t,h6,h3,h2,h7,h8,hlt,hlt',hw,h0]
   refine ⟨_,?_,i+1,by omega,rfl,by simp,?_⟩
   ·omega
   ·rw [<-hp,hd,orI,if_pos h0]
  ·simp [b9t,h6,h3,h2,h7,h8,hlt,hlt',hw,h0]
   rw [<-hp,hd,orI,if_neg h0]
 ·have:i=l.length:=by omega
  subst this
  simp [b9t,h6,h3,h2,h7,h8]
  rw [<-hp]
  simp [orI]
def a16 (e:a0B):Bool:=decide (e=⟨0,0,0⟩)||(nameB e.site e.seq&&decide (0<=e.i)&&decide (e.i<12))
theorem c3r (e:a0B):PEv Tryz.prog 213 [Arg.enc e] (.c (.raw (.bool (a16 e)))):=by
 refine a0e mixed c7R Tryz.func213 e9C e9D (by kernel_rfl) (by simp) (by simp) ?_
 obtain ⟨a,b,c⟩:=e
 by_cases h0:a=0/\b=0/\c=0
 ·obtain ⟨rfl,rfl,rfl⟩:=h0
  simp [d1m,a16]
 ·have h0':(decide (a=0)&&(decide (b=0)&&decide (c=0)))=false:=by simpa using h0
  have f1r:(decide ((⟨a,b,c⟩:a0B)=⟨0,0,0⟩))=false:=by simpa using h0
  cases h1:nameB a b
  ·simp [d1m,h0',h1,a16,f1r]
  ·by_cases h2:0<=c
   ·simp [d1m,h0',h1,h2,a16,f1r]
   ·simp [d1m,h0',h1,h2,a16,f1r]
def ownB (o:OpV) (e:a0B):Bool:=decide (e.site=o.site)&&decide (e.seq=o.seq)
theorem d5S (o:OpV) (e:a0B):PEv Tryz.prog 214 [Arg.enc o,Arg.enc e] (.c (.raw (.bool (ownB o e)))):=by
 refine a0e mixed (F:=[]) trivial Tryz.func214 e9E e9F (by kernel_rfl) (by simp) (by simp [a0f]) ?_
 obtain ⟨o1,o2,o3,o4,o5,o6,o7,o8,o9⟩:=o
 obtain ⟨a,b,c⟩:=e
 by_cases h1:a=o1
 ·simp [e1u,h1,ownB,a0f]
 ·simp [e1u,h1,ownB,a0f]
def a6e (a b:a0B):Int:=orI [c5f a.site b.site,c5f a.seq b.seq,c5f a.i b.i]
def b2C:List AV->Option (Prop×AV):=t1 (fun l=>l.length<4611686018427387904) fun l:List Int=>.c (.raw (.int .i64 (orI l)))
@[simp] theorem d5T {l:List AV}:b2C l=(t1 (fun l=>l.length<4611686018427387904) fun l:List Int=>.c (.raw (.int .i64 (orI l)))) l:=(rfl)
def b2D:List AV->Option (Prop×AV):=t1 (fun _=>True) fun e:a0B=>.c (.raw (.bool (a16 e)))
@[simp] theorem d5U {l:List AV}:b2D l=(t1 (fun _=>True) fun e:a0B=>.c (.raw (.bool (a16 e)))) l:=(rfl)
def b2E:List AV->Option (Prop×AV):=t2 (fun _ _=>True) fun (o:OpV) (e:a0B)=>.c (.raw (.bool (ownB o e)))
@[simp] theorem d5V {l:List AV}:b2E l=(t2 (fun _ _=>True) fun (o:OpV) (e:a0B)=>.c (.raw (.bool (ownB o e)))) l:=(rfl)
def FO4:CT:=(238,.pu b2C)::(213,.pu b2D)::(214,.pu b2E)::FO3
theorem c7S:a1k Tryz.prog FO4:=⟨a0n fun l h=>c6z l h,
 a0n fun e _=>c3r e,
 a0R fun o e _=>d5S o e,c7R⟩
@[simp] theorem d1z:a0b FO4 238=some (.pu b2C):=(rfl)
@[simp] theorem d1A:a0b FO4 213=some (.pu b2D):=(rfl)
@[simp] theorem d1B:a0b FO4 214=some (.pu b2E):=(rfl)
@[simp] theorem e1M {n:Nat} (h:(n==238||n==213||n==214)=false):a0b FO4 n=a0b FO3 n:=by
 simp only [Bool.or_eq_false_iff,beq_eq_false_iff_ne,ne_eq] at h
 simp [FO4,a0b,h]
theorem c6A (a b c:Int):[[AC.raw (.int .i64 a)],[AC.raw (.int .i64 b)],[AC.raw (.int .i64 c)]]=a0a [a,b,c]:=rfl
theorem take3 (a b c:Int):List.take 3 (a0a [a,b,c])=a0a [a,b,c]:=rfl
theorem c0G (a b:a0B):PEv Tryz.prog 233 [Arg.enc a,Arg.enc b] (.c (.raw (.int .i64 (a6e a b)))):=by
 refine a0e mixed c7S Tryz.func233 f0f f0g (by kernel_rfl) (by simp) (by simp) ?_
 simp [f0e,c6A,take3,a6e]
def b2F:List AV->Option (Prop×AV):=t2 (fun _ _=>True) fun (a b:a0B)=>.c (.raw (.int .i64 (a6e a b)))
@[simp] theorem d5W {l:List AV}:b2F l=(t2 (fun _ _=>True) fun (a b:a0B)=>.c (.raw (.int .i64 (a6e a b)))) l:=(rfl)
def FO5:CT:=(233,.pu b2F)::FO4
theorem c3s:a1k Tryz.prog FO5:=⟨a0R fun a b _=>c0G a b,c7S⟩
@[simp] theorem d1C:a0b FO5 233=some (.pu b2F):=(rfl)
@[simp] theorem e1N {n:Nat} (h:(n==233)=false):a0b FO5 n=a0b FO4 n:=by
 simp only [Bool.or_eq_false_iff,beq_eq_false_iff_ne,ne_eq] at h
 simp [FO5,a0b,h]
def a7Y (a b:a0B):Bool:=decide (a6e a b<0)
theorem c9O (a b:a0B):PEv Tryz.prog 228 [Arg.enc a,Arg.enc b] (.c (.raw (.bool (a7Y a b)))):=by
 refine a0e mixed c3s Tryz.func228 e96 e97 (by kernel_rfl) (by simp) (by simp) ?_
 simp [e95,a7Y]
theorem c3t (o:OpV) (h:o.text.length<9223372036854775807):PEv Tryz.prog 162 [Arg.enc o] (.c (.raw (.int .i64 (a05 o.text)))):=by
 refine a0e mixed c3s Tryz.func162 e8u e8v (by kernel_rfl) (by simp) (by simp [a0f]) ?_
 simp [e8t,a0f,h]
def a2S (o:OpV):Option a0B->List a0B->Bool
 |_,[]=>true
 |p,e::l=>if decide (e=⟨0,0,0⟩)||!a16 e||ownB o e||(match p with|none=>false|some q=>!a7Y q e) then false else a2S o (some e) l
def a38 (o:OpV):Bool:=a2S o none o.gone&&decide (o.gone.length<=200)
def b2G:List AV->Option (Prop×AV):=t2 (fun _ _=>True) fun (a b:a0B)=>.c (.raw (.bool (a7Y a b)))
@[simp] theorem d5X {l:List AV}:b2G l=(t2 (fun _ _=>True) fun (a b:a0B)=>.c (.raw (.bool (a7Y a b)))) l:=(rfl)
def b2H:List AV->Option (Prop×AV):=t1 (fun o=>o.text.length<9223372036854775807) fun o:OpV=>.c (.raw (.int .i64 (a05 o.text)))
@[simp] theorem d5Y {l:List AV}:b2H l=(t1 (fun o=>o.text.length<9223372036854775807) fun o:OpV=>.c (.raw (.int .i64 (a05 o.text)))) l:=(rfl)
def FO6:CT:=(228,.pu b2G)::(162,.pu b2H)::FO5
theorem c7T:a1k Tryz.prog FO6:=⟨a0R fun a b _=>c9O a b,
 a0n fun o h=>c3t o h,c3s⟩
@[simp] theorem d1D:a0b FO6 228=some (.pu b2G):=(rfl)
@[simp] theorem d1E:a0b FO6 162=some (.pu b2H):=(rfl)
@[simp] theorem e1O {n:Nat} (h:(n==228||n==162)=false):a0b FO6 n=a0b FO5 n:=by
 simp only [Bool.or_eq_false_iff,beq_eq_false_iff_ne,ne_eq] at h
 simp [FO6,a0b,h]
open Go Go.Proofs
def a4p (l:List a0B):Nat->Option a0B
 |0=>none
 |i+1=>l[i]?
theorem c6B (e:a0B):(decide (e.site=0)&&(decide (e.seq=0)&&decide (e.i=0)))=decide (e=⟨0,0,0⟩):=by
 obtain ⟨a,b,c⟩:=e
 by_cases h1:a=0<;>by_cases h2:b=0<;>by_cases h3:c=0<;>simp [h1,h2,h3]
theorem b1k (o:OpV) {i:Nat} (hi:i<o.gone.length):a2S o (a4p o.gone i) (o.gone.drop i) =
  if decide (o.gone[i]=⟨0,0,0⟩)||!a16 o.gone[i]||ownB o o.gone[i]||(match a4p o.gone i with|none=>false|some q=>!a7Y q o.gone[i]) then false else a2S o (a4p o.gone (i+1)) (o.gone.drop (i+1)):=by
 rw [List.drop_eq_getElem_cons hi]
 have e:a4p o.gone (i+1)=some o.gone[i]:=by simp [a4p,hi]
 rw [e]
 cases a4p o.gone i<;>rfl
theorem c9P (o:OpV) (hl:o.gone.length<4611686018427387904):PEv Tryz.prog 216 [Arg.enc o] (.c (.raw (.bool (a38 o)))):=by
 refine a0e mixed c7T Tryz.func216 e9K e9L (by kernel_rfl) (by simp) (by simp [a0f]) ?_
 simp [e9J,a0f]
 refine a1C (fun n st=>∃i:Nat,i<=o.gone.length/\n=o.gone.length-i/\st.s 1=.c (.pt (0,1) 0 0)/\st.s 6=.c (.sl .brw false (a0a o.gone))/\st.s 7=.c (.raw (.int .i64 o.gone.length))/\st.s 8=.c (.raw (.int .i64 i))/\st.H (0,1)=.arr 53 11 false [a0f .brw o]/\0<st.T/\a0D st.H st.T/\a2S o (a4p o.gone i) (o.gone.drop i)=a2S o none o.gone) o.gone.length ⟨0,by simp [a4p,a0f];exact a0D.set' (a1i.mono (Nat.zero_le _)) (by simp)⟩ ?_
 rintro n st ⟨i,hi,rfl,h1,h6,h7,h8,hH,hT,hf,hp⟩
 have hfu:∀k d,st.T<=k->st.H (k,d)=.a0h:=hf
 by_cases hlt:i<o.gone.length
 ·have hlt':(i:Int)<o.gone.length:=by omega
  have hw:IntKind.wrap .i64 ((i:Int)+1)=((i+1:Nat):Int):=by rw [a0d]<;>omega
  rw [b1k o hlt] at hp
  have hz:=c6B o.gone[i]
  cases z:decide (o.gone[i]=⟨0,0,0⟩)
  ·rw [z] at hz hp
   cases he:a16 o.gone[i]
   ·have hg:a38 o=false:=by simp [a38,<-hp,he]
    simp [a8G,h1,h6,h7,h8,hH,a0f,hlt,hlt',hw,hfu,hz,he,hg]
   ·cases hw':ownB o o.gone[i]
    ·by_cases h0:i=0
     ·subst h0
      have hp':a2S o (a4p o.gone 1) (o.gone.drop 1)=a2S o none o.gone:=by rw [<-hp];simp [he,hw',a4p]
      simp [a8G,h1,h6,h7,h8,hH,a0f,hlt,hlt',hw,hfu,hz,he,hw']
      refine ⟨_,?_,1,by omega,rfl,rfl,?_,hp'⟩
      ·omega
      ·repeat' (first|exact hf.mono (by first|omega|(simp<;>omega))|(refine a0D.set' ?_ (by first|omega|(simp<;>omega))))
     ·obtain ⟨j,hj⟩:∃j,j+1=i:=⟨i-1,by omega⟩
      have hjl:j<o.gone.length:=by omega
      have hpe:a4p o.gone i=some o.gone[j]:=by subst hj;simp [a4p,hjl]
      have hs:IntKind.wrap .i64 ((i:Int)-1)=(j:Int):=by rw [a0d]<;>omega
      have hpos:0<i:=by omega
      cases hl':a7Y o.gone[j] o.gone[i]
      ·have hg:a38 o=false:=by simp [a38,<-hp,he,hpe,hl']
       simp [a8G,h1,h6,h7,h8,hH,a0f,hlt,hlt',hw,hfu,hz,he,hw',hl',hs,hjl,hpos,h0,hg]
      ·have hp':a2S o (a4p o.gone (i+1)) (o.gone.drop (i+1))=a2S o none o.gone:=by rw [<-hp];simp [he,hw',hpe,hl']
       simp [a8G,h1,h6,h7,h8,hH,a0f,hlt,hlt',hw,hfu,hz,he,hw',hl',hs,hjl,hpos,h0]
       refine ⟨_,?_,i+1,by omega,rfl,rfl,?_,hp'⟩
       ·omega
       ·repeat' (first|exact hf.mono (by first|omega|(simp<;>omega))|(refine a0D.set' ?_ (by first|omega|(simp<;>omega))))
    ·have hg:a38 o=false:=by simp [a38,<-hp,he,hw']
     simp [a8G,h1,h6,h7,h8,hH,a0f,hlt,hlt',hw,hfu,hz,he,hw',hg]
  ·rw [z] at hz hp
   have hg:a38 o=false:=by simp [a38,<-hp]
   simp [a8G,h1,h6,h7,h8,hH,a0f,hlt,hlt',hw,hfu,hz,hg]
 ·have:i=o.gone.length:=by omega
  subst this
  simp at hp
  simp [a8G,h1,h6,h7,h8,hH,a0f]
  have:a2S o none o.gone=true:=by rw [<-hp];cases a4p o.gone o.gone.length<;>rfl
  simp [a38,this]
  omega
open Go Go.Proofs
def b2I:List AV->Option (Prop×AV):=t1 (fun o=>o.gone.length<4611686018427387904) fun o:OpV=>.c (.raw (.bool (a38 o)))
@[simp] theorem d5Z {l:List AV}:b2I l=(t1 (fun o=>o.gone.length<4611686018427387904) fun o:OpV=>.c (.raw (.bool (a38 o)))) l:=(rfl)
def b2J:List AV->Option (Prop×AV):=t1 (fun _=>True) fun s:List UInt8=>.c (.raw (.bool (a36 s)))
@[simp] theorem d6a {l:List AV}:b2J l=(t1 (fun _=>True) fun s:List UInt8=>.c (.raw (.bool (a36 s)))) l:=(rfl)
def FO7:CT:=(216,.pu b2I)::(215,.pu b2J)::FO6
theorem c3u:a1k Tryz.prog FO7:=⟨a0n fun o h=>c9P o h,
 a0n fun s _=>b1j s,c7T⟩
@[simp] theorem d1F:a0b FO7 216=some (.pu b2I):=(rfl)
@[simp] theorem d1G:a0b FO7 215=some (.pu b2J):=(rfl)
@[simp] theorem e1P {n:Nat} (h:(n==216||n==215)=false):a0b FO7 n=a0b FO6 n:=by
 simp only [Bool.or_eq_false_iff,beq_eq_false_iff_ne,ne_eq] at h
 simp [FO7,a0b,h]
def okO (o:OpV):Prop:=o.text.length<4611686018427387904/\o.gone.length<4611686018427387904
def a3Q (o:OpV):Bool:=
 a16 o.after&&!ownB o o.after&&!(decide (o.text=[])&&!decide (o.after=⟨0,0,0⟩))&&!(decide (o.text=[])&&decide (o.gone.length=0))&&
 a36 o.text&&decide (a05 o.text<=12)&&a38 o&&decide (o.of_=0)&&decide (o.num=0)&&decide (o.gen=0)
theorem c9Q (o:OpV) (ho:okO o):PEv Tryz.prog 188 [Arg.enc o] (.c (.raw (.bool (a3Q o)))):=by
 refine a0e mixed c3u Tryz.func188 e8U e8V (by kernel_rfl) (by simp) (by simp [a0f]) ?_
 have hz:=c6B o.after
 have b1:o.text.length<9223372036854775807:=by have:=ho.1;omega
 have b2:=ho.2
 have er:decide ((a05 o.text:Int)<=12)=decide (a05 o.text<=12):=by
  by_cases h:a05 o.text<=12<;>simp [h]<;>omega
 cases c1:a16 o.after
 ·simp [b4F,a0f,a3Q,c1]
 cases c2:ownB o o.after
 rotate_left
 ·simp [b4F,a0f,a3Q,c1,c2]
 cases c3:decide (o.text=[])
 rotate_left
 ·cases c4:decide (o.after=⟨0,0,0⟩)
  ·rw [c4] at hz
   simp [b4F,a0f,a3Q,hz,c1,c2,c3,c4]
  rw [c4] at hz
  cases c5:decide (o.gone=[])
  rotate_left
  ·simp [b4F,a0f,a3Q,hz,c1,c2,c3,c4,c5]
  cases c6:a36 o.text
  ·simp [b4F,a0f,a3Q,hz,b1,b2,c1,c2,c3,c4,c5,c6]
  cases c7:decide (a05 o.text<=12)
  ·have c7':decide ((a05 o.text:Int)<=12)=false:=by rw [er,c7]
   simp [b4F,a0f,a3Q,hz,b1,b2,c1,c2,c3,c4,c5,c6,c7,c7']
  have c7':decide ((a05 o.text:Int)<=12)=true:=by rw [er,c7]
  cases c8:a38 o
  ·simp [b4F,a0f,a3Q,hz,b1,b2,c1,c2,c3,c4,c5,c6,c7,c7',c8]
  cases c9:decide (o.of_=0)
  ·simp [b4F,a0f,a3Q,hz,b1,b2,c1,c2,c3,c4,c5,c6,c7,c7',c8,c9]
  cases c10:decide (o.num=0)
  ·simp [b4F,a0f,a3Q,hz,b1,b2,c1,c2,c3,c4,c5,c6,c7,c7',c8,c9,c10]
  ·simp [b4F,a0f,a3Q,hz,b1,b2,c1,c2,c3,c4,c5,c6,c7,c7',c8,c9,c10]
 ·skip
  cases c6:a36 o.text
  ·simp [b4F,a0f,a3Q,hz,b1,b2,c1,c2,c3,c6]
  cases c7:decide (a05 o.text<=12)
  ·have c7':decide ((a05 o.text:Int)<=12)=false:=by rw [er,c7]
   simp [b4F,a0f,a3Q,hz,b1,b2,c1,c2,c3,c6,c7,c7']
  have c7':decide ((a05 o.text:Int)<=12)=true:=by rw [er,c7]
  cases c8:a38 o
  ·simp [b4F,a0f,a3Q,hz,b1,b2,c1,c2,c3,c6,c7,c7',c8]
  cases c9:decide (o.of_=0)
  ·simp [b4F,a0f,a3Q,hz,b1,b2,c1,c2,c3,c6,c7,c7',c8,c9]
  cases c10:decide (o.num=0)
  ·simp [b4F,a0f,a3Q,hz,b1,b2,c1,c2,c3,c6,c7,c7',c8,c9,c10]
  ·simp [b4F,a0f,a3Q,hz,b1,b2,c1,c2,c3,c6,c7,c7',c8,c9,c10]
open Go Go.Proofs
theorem a0B.a8X {a b:a0B}:a=b↔a.site=b.site/\a.seq=b.seq/\a.i=b.i:=by
 obtain ⟨a1,a2,a3⟩:=a
 obtain ⟨b1,b2,b3⟩:=b
 simp
theorem c3v (a b:List a0B) (ha:a.length<4611686018427387904):PEv Tryz.prog 176 [Arg.enc a,Arg.enc b] (.c (.raw (.bool (decide (a=b))))):=by
 refine a0e mixed (F:=[]) trivial Tryz.func176 e8M e8N (by kernel_rfl) (by simp) (by simp) ?_
 simp [e8L]
 refine ⟨fun h e=>h (by rw [e]),fun hl=>?_⟩
 have hl:a.length=b.length:=by omega
 refine a1C (fun n st=>∃i:Nat,i<=a.length/\n=a.length-i/\st.s 0=.c (.sl .brw false (a0a a))/\st.s 1=.c (.sl .brw false (a0a b))/\st.s 12=.c (.raw (.int .i64 a.length))/\st.s 13=.c (.raw (.int .i64 i))/\a.take i=b.take i) a.length ⟨0,by simp⟩ ?_
 rintro n st ⟨i,hi,rfl,h0,h1,h12,h5,hp⟩
 by_cases hlt:i<a.length
 ·have hb:i<b.length:=by omega
  have hw:IntKind.wrap .i64 ((i:Int)+1)=((i+1:Nat):Int):=by rw [a0d]<;>omega
  simp [c27,h0,h1,h5,h12,hlt,hb]
  refine ⟨?_,?_⟩
  ·intro hne e
   subst e
   simp at hne
  ·intro e1 e2 e3
   refine ⟨a.length-(i+1),by omega,i+1,by omega,rfl,?_,?_⟩
   ·rw [a0d (by omega) (by omega)];rfl
   ·exact a5K hp hlt hb (a0B.a8X.2 ⟨e1,e2,e3⟩)
 ·have:i=a.length:=by omega
  subst this
  simp [c27,h0,h1,h5,h12]
  rw [List.take_length,hl,List.take_length] at hp
  exact hp
theorem b1l (a b:List a0B) (ha:a.length<4611686018427387904):PEv Tryz.prog 65 [Arg.enc a,Arg.enc b] (.c (.raw (.bool (decide (a=b))))):=by
 refine a0e mixed (F:=[]) trivial Tryz.func65 f6O f6P (by kernel_rfl) (by simp) (by simp) ?_
 simp [s65]
 refine ⟨fun h e=>h (by rw [e]),fun hl=>?_⟩
 have hl:a.length=b.length:=by omega
 refine a1C (fun n st=>∃i:Nat,i<=a.length/\n=a.length-i/\st.s 0=.c (.sl .brw false (a0a a))/\st.s 1=.c (.sl .brw false (a0a b))/\st.s 5=.c (.raw (.int .i64 i))/\a.take i=b.take i) a.length ⟨0,by simp⟩ ?_
 rintro n st ⟨i,hi,rfl,h0,h1,h5,hp⟩
 by_cases hlt:i<a.length
 ·have hb:i<b.length:=by omega
  simp [c9H,h0,h1,h5,hlt,hb]
  refine ⟨?_,?_⟩
  ·intro hne e
   subst e
   simp at hne
  ·intro e1 e2 e3
   refine ⟨a.length-(i+1),by omega,i+1,by omega,rfl,?_,?_⟩
   ·rw [a0d (by omega) (by omega)];rfl
   ·exact a5K hp hlt hb (a0B.a8X.2 ⟨e1,e2,e3⟩)
 ·have:i=a.length:=by omega
  subst this
  simp [c9H,h0,h1,h5]
  rw [List.take_length,hl,List.take_length] at hp
  exact hp
open Go Go.Proofs
def a1H (o:OpV):Bool:=
 nameB o.of_ o.num&&!(decide (o.of_=o.site)&&decide (o.num=o.seq))&&!decide (o.gen<0)&&!decide (268435456<o.gen)&&
 decide (o.after=⟨0,0,0⟩)&&decide (o.text=[])&&decide (o.gone=[])
theorem c3w (o:OpV) (ho:okO o):PEv Tryz.prog 189 [Arg.enc o] (.c (.raw (.bool (a1H o)))):=by
 refine a0e mixed c3u Tryz.func189 e8W e8X (by kernel_rfl) (by simp) (by simp [a0f]) ?_
 have hz:=c6B o.after
 cases c1:nameB o.of_ o.num
 ·simp [b9r,a0f,a1H,hz,c1]
 cases c2:decide (o.of_=o.site)
 ·cases c4:decide (o.gen<0)
  rotate_left
  ·simp [b9r,a0f,a1H,hz,c1,c2,c4]
  cases c5:decide (268435456<o.gen)
  rotate_left
  ·simp [b9r,a0f,a1H,hz,c1,c2,c4,c5]
  cases c6:decide (o.after=⟨0,0,0⟩)
  ·rw [c6] at hz
   simp [b9r,a0f,a1H,hz,c1,c2,c4,c5,c6]
  rw [c6] at hz
  cases c7:decide (o.text=[])
  ·simp [b9r,a0f,a1H,hz,c1,c2,c4,c5,c6,c7]
  ·simp [b9r,a0f,a1H,hz,c1,c2,c4,c5,c6,c7]
 cases c3:decide (o.num=o.seq)
 rotate_left
 ·simp [b9r,a0f,a1H,hz,c1,c2,c3]
 cases c4:decide (o.gen<0)
 rotate_left
 ·simp [b9r,a0f,a1H,hz,c1,c2,c3,c4]
 cases c5:decide (268435456<o.gen)
 rotate_left
 ·simp [b9r,a0f,a1H,hz,c1,c2,c3,c4,c5]
 cases c6:decide (o.after=⟨0,0,0⟩)
 ·rw [c6] at hz
  simp [b9r,a0f,a1H,hz,c1,c2,c3,c4,c5,c6]
 rw [c6] at hz
 cases c7:decide (o.text=[])
 ·simp [b9r,a0f,a1H,hz,c1,c2,c3,c4,c5,c6,c7]
 ·simp [b9r,a0f,a1H,hz,c1,c2,c3,c4,c5,c6,c7]
open Go Go.Proofs
def b2K:List AV->Option (Prop×AV):=t2 (fun a _=>a.length<4611686018427387904) fun a b:List a0B=>.c (.raw (.bool (decide (a=b))))
@[simp] theorem d6b {l:List AV}:b2K l=(t2 (fun a _=>a.length<4611686018427387904) fun a b:List a0B=>.c (.raw (.bool (decide (a=b))))) l:=(rfl)
def c9R:List AV->Option (Prop×AV):=t2 (fun a _=>a.length<4611686018427387904) fun a b:List a0B=>.c (.raw (.bool (decide (a=b))))
def FQ1:CT:=(176,.pu b2K)::(65,.pu c9R)::FO7
theorem c7U:a1k Tryz.prog FQ1:=⟨a0R fun a b h=>c3v a b h,
 a0R fun a b h=>b1l a b h,c3u⟩
@[simp] theorem d1H:a0b FQ1 176=some (.pu b2K):=(rfl)
@[simp] theorem e1Q {n:Nat} (h:(n==176||n==65)=false):a0b FQ1 n=a0b FO7 n:=by
 simp only [Bool.or_eq_false_iff,beq_eq_false_iff_ne,ne_eq] at h
 simp [FQ1,a0b,h]
theorem c7V (a b:a0B):(decide (a.site=b.site)&&(decide (a.seq=b.seq)&&decide (a.i=b.i)))=decide (a=b):=by
 obtain ⟨a1,a2,a3⟩:=a
 obtain ⟨b1,b2,b3⟩:=b
 by_cases h1:a1=b1<;>by_cases h2:a2=b2<;>by_cases h3:a3=b3<;>simp [h1,h2,h3]
def a2B (a b:OpV):Bool:=
 decide (a.gone=b.gone)&&decide (a.site=b.site)&&decide (a.seq=b.seq)&&decide (a.kind=b.kind)&&decide (a.after=b.after)&&decide (a.text=b.text)&&decide (a.of_=b.of_)&&decide (a.num=b.num)&&decide (a.gen=b.gen)
theorem a4y (a b:OpV):a2B a b=decide (a=b):=by
 obtain ⟨a1,a2,a3,a4,a5,a6,a7,a8,a9⟩:=a
 obtain ⟨b1,b2,b3,b4,b5,b6,b7,b8,b9⟩:=b
 rw [Bool.eq_iff_iff]
 simp [a2B]
 constructor
 ·rintro ⟨⟨⟨⟨⟨⟨⟨⟨rfl,rfl⟩,rfl⟩,rfl⟩,rfl⟩,rfl⟩,rfl⟩,rfl⟩,rfl⟩
  simp
 ·rintro ⟨rfl,rfl,rfl,rfl,rfl,rfl,rfl,rfl,rfl⟩
  simp
theorem c9S (a b:OpV) (ha:a.gone.length<4611686018427387904):PEv Tryz.prog 134 [Arg.enc a,Arg.enc b] (.c (.raw (.bool (a2B a b)))):=by
 refine a0e mixed c7U Tryz.func134 e7L e7M (by kernel_rfl) (by simp) (by simp [a0f]) ?_
 have hz:=c7V a.after b.after
 cases c1:decide (a.gone=b.gone)
 ·simp [c24,a0f,a2B,hz,c1,ha]
 cases c2:decide (a.site=b.site)
 ·simp [c24,a0f,a2B,hz,c1,c2,ha]
 cases c3:decide (a.seq=b.seq)
 ·simp [c24,a0f,a2B,hz,c1,c2,c3,ha]
 cases c4:decide (a.kind=b.kind)
 ·simp [c24,a0f,a2B,hz,c1,c2,c3,c4,ha]
 cases c5:decide (a.after=b.after)
 ·rw [c5] at hz
  simp [c24,a0f,a2B,hz,c1,c2,c3,c4,c5,ha]
 rw [c5] at hz
 cases c6:decide (a.text=b.text)
 ·simp [c24,a0f,a2B,hz,c1,c2,c3,c4,c5,c6,ha]
 cases c7:decide (a.of_=b.of_)
 ·simp [c24,a0f,a2B,hz,c1,c2,c3,c4,c5,c6,c7,ha]
 cases c8:decide (a.num=b.num)
 ·simp [c24,a0f,a2B,hz,c1,c2,c3,c4,c5,c6,c7,c8,ha]
 ·simp [c24,a0f,a2B,hz,c1,c2,c3,c4,c5,c6,c7,c8,ha]
open Go Go.Proofs
def b2L:List AV->Option (Prop×AV):=t1 okO fun o:OpV=>.c (.raw (.bool (a3Q o)))
@[simp] theorem d6c {l:List AV}:b2L l=(t1 okO fun o:OpV=>.c (.raw (.bool (a3Q o)))) l:=(rfl)
def b2M:List AV->Option (Prop×AV):=t1 okO fun o:OpV=>.c (.raw (.bool (a1H o)))
@[simp] theorem d6d {l:List AV}:b2M l=(t1 okO fun o:OpV=>.c (.raw (.bool (a1H o)))) l:=(rfl)
def b2N:List AV->Option (Prop×AV):=t2 (fun a _=>a.gone.length<4611686018427387904) fun a b:OpV=>.c (.raw (.bool (a2B a b)))
@[simp] theorem d6e {l:List AV}:b2N l=(t2 (fun a _=>a.gone.length<4611686018427387904) fun a b:OpV=>.c (.raw (.bool (a2B a b)))) l:=(rfl)
def FM0:CT:=(188,.pu b2L)::(189,.pu b2M)::(134,.pu b2N)::FQ1
theorem b9y:a1k Tryz.prog FM0:=⟨a0n fun o h=>c9Q o h,
 a0n fun o h=>c3w o h,
 a0R fun a b h=>c9S a b h,c7U⟩
@[simp] theorem d1I:a0b FM0 188=some (.pu b2L):=(rfl)
@[simp] theorem d1J:a0b FM0 189=some (.pu b2M):=(rfl)
@[simp] theorem d1K:a0b FM0 134=some (.pu b2N):=(rfl)
@[simp] theorem e1R {n:Nat} (h:(n==188||n==189||n==134)=false):a0b FM0 n=a0b FQ1 n:=by
 simp only [Bool.or_eq_false_iff,beq_eq_false_iff_ne,ne_eq] at h
 simp [FM0,a0b,h]
def a0s (o:OpV):Bool:=nameB o.site o.seq&&(if o.kind=1 then a3Q o else decide (o.kind=2)&&a1H o)
theorem b9z (o:OpV) (ho:okO o):PEv Tryz.prog 153 [Arg.enc o] (.c (.raw (.bool (a0s o)))):=by
 refine a0e mixed b9y Tryz.func153 e8b e8c (by kernel_rfl) (by simp) (by simp [a0f]) ?_
 cases c1:nameB o.site o.seq
 ·simp [d1i,a0f,a0s,c1,ho]
 cases c2:decide (o.kind=1)
 rotate_left
 ·have c2':=of_decide_eq_true c2
  simp [d1i,a0f,a0s,c1,c2,ho]
  exact fun h=>absurd c2' h
 cases c3:decide (o.kind=2)
 ·simp [d1i,a0f,a0s,c1,c2,c3,ho]
 ·simp [d1i,a0f,a0s,c1,c2,c3,ho]
  exact fun h=>absurd h (of_decide_eq_false c2)
def a0V:OpV:=⟨0,0,0,⟨0,0,0⟩,[],[],0,0,0⟩
theorem c0H (o:OpV) (ho:okO o):PEv Tryz.prog 191 [Arg.enc o] (.c (.raw (.bool (a2B o a0V)))):=by
 refine a0e mixed b9y Tryz.func191 e8Z e80 (by kernel_rfl) (by simp) (by simp [a0f]) ?_
 have:=ho.2
 simp [e8Y,a0f,this,a0V]
def b2O:List AV->Option (Prop×AV):=t1 okO fun o:OpV=>.c (.raw (.bool (a0s o)))
@[simp] theorem d6f {l:List AV}:b2O l=(t1 okO fun o:OpV=>.c (.raw (.bool (a0s o)))) l:=(rfl)
def b2P:List AV->Option (Prop×AV):=t1 okO fun o:OpV=>.c (.raw (.bool (a2B o a0V)))
@[simp] theorem d6g {l:List AV}:b2P l=(t1 okO fun o:OpV=>.c (.raw (.bool (a2B o a0V)))) l:=(rfl)
def FM1:CT:=(153,.pu b2O)::(191,.pu b2P)::FM0
theorem c7W:a1k Tryz.prog FM1:=⟨a0n fun o h=>b9z o h,
 a0n fun o h=>c0H o h,b9y⟩
@[simp] theorem d1L:a0b FM1 153=some (.pu b2O):=(rfl)
@[simp] theorem d1M:a0b FM1 191=some (.pu b2P):=(rfl)
@[simp] theorem e1S {n:Nat} (h:(n==153||n==191)=false):a0b FM1 n=a0b FM0 n:=by
 simp only [Bool.or_eq_false_iff,beq_eq_false_iff_ne,ne_eq] at h
 simp [FM1,a0b,h]
def a0H (e:a0k):Bool:=if e.join then decide (1<=e.a0N)&&decide (e.a0N<=268435456)&&a2B e.op a0V else decide (e.a0N=0)&&a0s e.op
theorem b5K (e:a0k) (ho:okO e.op):PEv Tryz.prog 163 [Arg.enc e] (.c (.raw (.bool (a0H e)))):=by
 refine a0e mixed c7W Tryz.func163 e8w e8x (by kernel_rfl) (by simp) (by simp [a0q,a0f]) ?_
 cases c1:e.join
 ·cases c2:decide (e.a0N=0)
  ·simp [c9L,a0q,a0f,a0H,c1,c2,ho]
  ·simp [c9L,a0q,a0f,a0H,c1,c2,ho]
 ·cases c2:decide (1<=e.a0N)
  ·simp [c9L,a0q,a0f,a0H,c1,c2,ho]
  cases c3:decide (e.a0N<=268435456)
  ·simp [c9L,a0q,a0f,a0H,c1,c2,c3,ho]
  ·simp [c9L,a0q,a0f,a0H,c1,c2,c3,ho]
theorem a6Q {a b:Int} (h:nameB a b=true):1<=a/\a<=8/\1<=b/\b<=268435456:=by
 simp [nameB] at h
 omega
theorem c9T {e:a0B} (h:a16 e=true):0<=e.site/\e.site<=8/\0<=e.seq/\e.seq<=268435456/\0<=e.i/\e.i<12:=by
 simp [a16] at h
 rcases h with rfl|⟨⟨h1,h2⟩,h3⟩
 ·simp
 ·have:=a6Q h1
  omega
def okN (n:Int):Prop:=0<=n/\n<9223372036854775808
def okE (e:a0B):Prop:=okN e.site/\okN e.seq/\okN e.i
theorem b9A {e:a0B} (h:a16 e=true):okE e:=by
 have:=c9T h
 refine ⟨⟨?_,?_⟩,⟨?_,?_⟩,?_,?_⟩<;>omega
def c6C:List AV->Option (Prop×AV):=t1 (fun e=>okO e.op) fun e:a0k=>.c (.raw (.bool (a0H e)))
def b2Q:List AV->Option (Prop×AV):=t1 (fun l=>l.length<1000000/\∀n∈l,okN n) fun l:List Int=>.c (.str (a1X l))
@[simp] theorem d6h {l:List AV}:b2Q l=(t1 (fun l=>l.length<1000000/\∀n∈l,okN n) fun l:List Int=>.c (.str (a1X l))) l:=(rfl)
def b2R:List AV->Option (Prop×AV):=t1 (fun s=>s.length<140737488355328) fun s:List UInt8=>.c (.str (a0g s.length++s))
@[simp] theorem d6i {l:List AV}:b2R l=(t1 (fun s=>s.length<140737488355328) fun s:List UInt8=>.c (.str (a0g s.length++s))) l:=(rfl)
def FP0:CT:=(163,.pu c6C)::(167,.pu b2Q)::(199,.pu b2R)::FM1
theorem c3x:a1k Tryz.prog FP0:=⟨a0n fun e h=>b5K e h,
 a0n fun l h=>b1g l h.1 h.2,
 a0n fun s h=>b1e s h,c7W⟩
@[simp] theorem d1N:a0b FP0 167=some (.pu b2Q):=(rfl)
@[simp] theorem d1O:a0b FP0 199=some (.pu b2R):=(rfl)
@[simp] theorem e1T {n:Nat} (h:(n==163||n==167||n==199)=false):a0b FP0 n=a0b FM1 n:=by
 simp only [Bool.or_eq_false_iff,beq_eq_false_iff_ne,ne_eq] at h
 simp [FP0,a0b,h]
def a1p (e:a0B):List UInt8:=a1X [e.site,e.seq,e.i]
theorem c6D (e:a0B) (h:okE e):PEv Tryz.prog 198 [Arg.enc e] (.c (.str (a1p e))):=by
 refine a0e mixed c3x Tryz.func198 e9d e9e (by kernel_rfl) (by simp) (by simp) ?_
 obtain ⟨h1,h2,h3⟩:=h
 simp [e9c,c6A,take3,h1,h2,h3,a1p]
open Go Go.Proofs
def b2S:List AV->Option (Prop×AV):=t1 okE fun e:a0B=>.c (.str (a1p e))
@[simp] theorem d6j {l:List AV}:b2S l=(t1 okE fun e:a0B=>.c (.str (a1p e))) l:=(rfl)
def FP1:CT:=(198,.pu b2S)::FP0
theorem c7X:a1k Tryz.prog FP1:=⟨a0n fun e h=>c6D e h,c3x⟩
@[simp] theorem d1P:a0b FP1 198=some (.pu b2S):=(rfl)
@[simp] theorem e1U {n:Nat} (h:(n==198)=false):a0b FP1 n=a0b FP0 n:=by
 simp only [Bool.or_eq_false_iff,beq_eq_false_iff_ne,ne_eq] at h
 simp [FP1,a0b,h]
structure okP (o:OpV):Prop where
 site:okN o.site
 seq:okN o.seq
 kind:okN o.kind
 of_:okN o.of_
 num:okN o.num
 gen:okN o.gen
 after:okE o.after
 gone:∀e∈o.gone,okE e
 text:o.text.length<1000000
 len:o.gone.length<1000000
def a3R (o:OpV):List UInt8:=a1X [o.site,o.seq,o.kind]
def b4G (o:OpV):List UInt8:=a1p o.after++((a0g o.text.length++o.text)++a1X [(o.gone.length:Int)])
def a0Z (o:OpV):List UInt8:=if o.kind=2 then a3R o++a1X [o.of_,o.num,o.gen] else a3R o++b4G o++o.gone.flatMap a1p
theorem a4U (e:a0B):(a1p e).length<=30:=by
 have:=a2U [e.site,e.seq,e.i]
 simpa [a1p] using this
theorem d6k (a:Int):(Arg.dec (.c (.sl .brw false [[AC.raw (.int .i64 a)]])):Option (List Int))=some [a]:=a7j [a]
theorem c7Y (a b c:Int):(Arg.dec (.c (.sl .brw false [[AC.raw (.int .i64 a)],[AC.raw (.int .i64 b)],[AC.raw (.int .i64 c)]])):Option (List Int))=some [a,b,c]:=a7j [a,b,c]
theorem b2T (l:List a0B):(l.flatMap a1p).length<=30*l.length:=by
 induction l with
 |nil=>simp
 |cons x l ih=>
  have:=a4U x
  simp at ih ⊢
  omega
theorem b9B (o:OpV) (h:okP o):PEv Tryz.prog 168 [Arg.enc o] (.c (.str (a0Z o))):=by
 refine a0e mixed c7X Tryz.func168 e8A e8B (by kernel_rfl) (by simp) (by simp [a0f]) ?_
 have hl1:=a2U [o.site,o.seq,o.kind]
 have hl2:=a2U [o.of_,o.num,o.gen]
 have hl3:=a4U o.after
 have hl4:=a0G o.text.length
 have hl5:=a2U [(o.gone.length:Int)]
 have hl6:=h.text
 have hl7:=h.len
 simp only [List.length_cons,List.length_nil] at hl1 hl2 hl5
 have e1:=h.site;have e2:=h.seq;have e3:=h.kind;have e4:=h.of_;have e5:=h.num;have e6:=h.gen;have e7:=h.after
 have e8:okN (o.gone.length:Int):=⟨by omega,by omega⟩
 have l1:(a1X [o.site,o.seq,o.kind]).length+(a1X [o.of_,o.num,o.gen]).length<=9223372036854775807:=by omega
 have l2:o.text.length<140737488355328:=by omega
 have e9:a1p {site:=o.after.site,seq:=o.after.seq,i:=o.after.i}=a1p o.after:=rfl
 cases c:decide (o.kind=2)
 rotate_left
 ·have e10:a0Z o=a3R o++a1X [o.of_,o.num,o.gen]:=by rw [a0Z,if_pos (of_decide_eq_true c)]
  simp [e1o,a0f,c7Y,e1,e2,e3,e4,e5,e6,c,l1,e10,a3R]
 ·have e10:a0Z o=a3R o++b4G o++o.gone.flatMap a1p:=by rw [a0Z,if_neg (of_decide_eq_false c)]
  have l3:(a1p o.after).length+((a0g o.text.length).length+o.text.length)<=9223372036854775807:=by omega
  have l4:(a1p o.after).length+((a0g o.text.length).length+(o.text.length+(a1X [(o.gone.length:Int)]).length))<=9223372036854775807:=by omega
  have l5:(a1X [o.site,o.seq,o.kind]).length+((a1p o.after).length+((a0g o.text.length).length+(o.text.length+(a1X [(o.gone.length:Int)]).length)))<=9223372036854775807:=by omega
  simp [e1o,a0f,c7Y,d6k,e1,e2,e3,e7,e8,c,l2,l3,l4,l5,e9]
  refine ⟨by omega,?_⟩
  have lm:(a3R o++b4G o).length<=1000200:=by simp [a3R,b4G];omega
  refine a1C (fun n st=>∃i:Nat,i<=o.gone.length/\n=o.gone.length-i/\st.s 3=.c (.str (a3R o++b4G o++(o.gone.take i).flatMap a1p))/\st.s 43=.c (.sl .brw false (a0a o.gone))/\st.s 44=.c (.raw (.int .i64 o.gone.length))/\st.s 45=.c (.raw (.int .i64 i))/\a0D st.H st.T) o.gone.length ?_ ?_
  ·refine ⟨0,by omega,by omega,?_⟩
   simp [a3R,b4G]
   (repeat' (first|exact a1i.mono (Nat.zero_le _)|(refine a0D.set' ?_ (by simp))))
  rintro n st ⟨i,hi,rfl,h3,h43,h44,h45,hf⟩
  have hfu:∀k d,st.T<=k->st.H (k,d)=.a0h:=hf
  by_cases hlt:i<o.gone.length
  ·have hlt':(i:Int)<o.gone.length:=by omega
   have hw:IntKind.wrap .i64 ((i:Int)+1)=((i+1:Nat):Int):=by rw [a0d]<;>omega
   have hg:okE o.gone[i]:=h.gone _ (List.getElem_mem hlt)
   have hg':a1p {site:=o.gone[i].site,seq:=o.gone[i].seq,i:=o.gone[i].i}=a1p o.gone[i]:=rfl
   have hg2:okE {site:=o.gone[i].site,seq:=o.gone[i].seq,i:=o.gone[i].i}:=hg
   have g1:=b2T (o.gone.take i)
   rw [List.length_take] at g1
   have g2:=a4U o.gone[i]
   generalize hX:a3R o++b4G o++(o.gone.take i).flatMap a1p=X at h3
   have hXl:X.length+(a1p o.gone[i]).length<=9223372036854775807:=by rw [<-hX,List.length_append];omega
   simp [c25,h3,h43,h44,h45,hlt,hlt',hw,hfu,hg2,hg',hXl]
   refine ⟨_,?_,i+1,by omega,rfl,?_,rfl,?_⟩
   ·omega
   ·rw [<-hX,<-List.take_append_getElem hlt,List.flatMap_append]
    simp
   ·repeat' (first|exact hf.mono (by first|omega|(simp<;>omega))|(refine a0D.set' ?_ (by first|omega|(simp<;>omega))))
  ·have:i=o.gone.length:=by omega
   subst this
   simp [c25,h3,h43,h44,h45,e10]
open Go Go.Proofs
structure RdV where
 s:List UInt8
 bad:Bool
def a0W (r:RdV):List AC:=[.str r.s,.raw (.bool r.bad)]
def rdG {α:Type} (C:RdV->Prop) (f:RdV->α×RdV) (out:α->AV):List AC->List AV->Option (Prop×List AC×AV):=fun row rest=>
 match row,rest with
 |[.str s,.raw (.bool b)],[]=>some (C ⟨s,b⟩,a0W (f ⟨s,b⟩).2,out (f ⟨s,b⟩).1)
 |_,_=>none
@[simp] theorem f2W {α:Type} {C:RdV->Prop} {f:RdV->α×RdV} {out:α->AV} {s:List UInt8} {b:Bool} :
  rdG C f out [.str s,.raw (.bool b)] []=some (C ⟨s,b⟩,a0W (f ⟨s,b⟩).2,out (f ⟨s,b⟩).1):=rfl
theorem a4z {F:CT} (hF:a1k Tryz.prog F) {e:TypeId} {f:FuncId} {fn:Func} {s:SC} {α:Type} {C:RdV->Prop} {g:RdV->α×RdV} {out:α->AV} (hf:Tryz.prog.funcs[f]?=some fn) (hs:a0o fn.body s=some (unK s,true))
  (hok:a0I a0m fn 0=true) (hn:Nat.ble 1 fn.ntmps=true) (hout:∀a,∀c∈(out a).flat,b0r c)
  (h:∀(H:Heap) (T:Nat) (id:Id) (r:RdV),H id=.arr e 2 false [a0W r]->a0D H T->C r->
   a2K Tryz.prog F s (d4U Tryz.prog fn fun res H'=>exV H' res (out (g r).1)/\(a2p res.flat).Nodup/\(∀i∈a2p res.flat,H i=.a0h)/\a0v [id] H H'/\H' id=.arr e 2 false [a0W (g r).2]) (a7k H T [.c (.pt id 0 0)])) :
  a5r Tryz.prog f (mh1 e 2 (rdG C g out)):=by
 have inv:∀{row rest q},rdG C g out row rest=some q->∃r:RdV,row=a0W r/\rest=[]/\q=(C r,a0W (g r).2,out (g r).1):=by
  intro row rest q hq
  unfold rdG at hq
  split at hq
  ·cases hq
   exact ⟨⟨_,_⟩,rfl,rfl,rfl⟩
  ·cases hq
 refine c9A mixed hF hf hs hok (fun row rest q hq=>?_) fun H T id row rest q hid hfr hq hC=>?_
 ·obtain ⟨r,rfl,rfl,rfl⟩:=inv hq
  refine ⟨hn,hout _,fun c hc id=>?_⟩
  simp [a0W] at hc
  rcases hc with rfl|rfl<;>simp
 ·obtain ⟨r,rfl,rfl,rfl⟩:=inv hq
  exact h H T id r hid hfr hC
def rdNum (r:RdV):Int×RdV:=((a1e r.s).1,⟨(a1e r.s).2.1,r.bad||!decide ((a1e r.s).2.2=0)⟩)
def a1d (r:RdV):List UInt8×RdV:=((a0L r.s).1,⟨(a0L r.s).2.1,r.bad||!decide ((a0L r.s).2.2=0)⟩)
def okR (r:RdV):Prop:=r.s.length<4611686018427387904
def b0s (n:Int):AV:=.c (.raw (.int .i64 n))
def b6y (s:List UInt8):AV:=.c (.str s)
def b2U:List AV->Option (Prop×AV):=t1 (fun s=>s.length<4611686018427387904) fun s:List UInt8=>a3A s
@[simp] theorem d6l {l:List AV}:b2U l=(t1 (fun s=>s.length<4611686018427387904) fun s:List UInt8=>a3A s) l:=(rfl)
def b2V:List AV->Option (Prop×AV):=t1 (fun s=>s.length<4611686018427387904) fun s:List UInt8=>a2o s
@[simp] theorem d6m {l:List AV}:b2V l=(t1 (fun s=>s.length<4611686018427387904) fun s:List UInt8=>a2o s) l:=(rfl)
def FR0:CT:=(221,.pu b2U)::(240,.pu b2V)::FP1
theorem c3y:a1k Tryz.prog FR0:=⟨a0n fun s h=>a7X s h,
 a0n fun s h=>a6z s h,c7X⟩
@[simp] theorem d1Q:a0b FR0 221=some (.pu b2U):=(rfl)
@[simp] theorem d1R:a0b FR0 240=some (.pu b2V):=(rfl)
@[simp] theorem e1V {n:Nat} (h:(n==221||n==240)=false):a0b FR0 n=a0b FP1 n:=by
 simp only [Bool.or_eq_false_iff,beq_eq_false_iff_ne,ne_eq] at h
 simp [FR0,a0b,h]
theorem a5k {id:Id} {H:Heap} {o o':OK}:a0v [id] H (hset (hset H id o) id o'):=by
 intro i hi hn
 simp at hn
 simp [hset,hn]
theorem c6E:a5r Tryz.prog 234 (mh1 253 2 (rdG okR rdNum b0s)):=by
 refine a4z c3y Tryz.func234 f0h f0i (by kernel_rfl) (by simp [b0s]) fun H T id r hid hf hr=>?_
 obtain ⟨s,bad⟩:=r
 have hr':s.length<4611686018427387904:=hr
 have hfu:∀k d,T<=k->H (k,d)=.a0h:=hf
 cases bad
 ·simp [e1w,hid,hfu,hr',a0W,a3A]
  refine ⟨by simp [b0s,rdNum],a5k,rfl,by simp [rdNum]⟩
 ·simp [e1w,hid,hfu,hr',a0W,a3A]
  refine ⟨by simp [b0s,rdNum],a5k,rfl,by simp [rdNum]⟩
theorem c3z:a5r Tryz.prog 236 (mh1 253 2 (rdG okR a1d b6y)):=by
 refine a4z c3y Tryz.func236 f0m f0n (by kernel_rfl) (by simp [b6y]) fun H T id r hid hf hr=>?_
 obtain ⟨s,bad⟩:=r
 have hr':s.length<4611686018427387904:=hr
 have hfu:∀k d,T<=k->H (k,d)=.a0h:=hf
 cases bad
 ·simp [e1x,hid,hfu,hr',a0W,a2o]
  refine ⟨by simp [b6y,a1d],a5k,rfl,by simp [a1d]⟩
 ·simp [e1x,hid,hfu,hr',a0W,a2o]
  refine ⟨by simp [b6y,a1d],a5k,rfl,by simp [a1d]⟩
def b2W:MH:=mh1 253 2 (rdG okR rdNum b0s)
@[simp] theorem d6n {H:Heap} {l:List AV}:b2W H l=(mh1 253 2 (rdG okR rdNum b0s)) H l:=(rfl)
def b2X:MH:=mh1 253 2 (rdG okR a1d b6y)
@[simp] theorem d6o {H:Heap} {l:List AV}:b2X H l=(mh1 253 2 (rdG okR a1d b6y)) H l:=(rfl)
def FR1:CT:=(234,.mu b2W)::(236,.mu b2X)::FR0
theorem c7Z:a1k Tryz.prog FR1:=⟨c6E,
 c3z,c3y⟩
@[simp] theorem d1S:a0b FR1 234=some (.mu b2W):=(rfl)
@[simp] theorem d1T:a0b FR1 236=some (.mu b2X):=(rfl)
@[simp] theorem e1W {n:Nat} (h:(n==234||n==236)=false):a0b FR1 n=a0b FR0 n:=by
 simp only [Bool.or_eq_false_iff,beq_eq_false_iff_ne,ne_eq] at h
 simp [FR1,a0b,h]
def a07 (r:RdV):a0B×RdV:=
 let a:=rdNum r
 let b:=rdNum a.2
 let c:=rdNum b.2
 (⟨a.1,b.1,c.1⟩,c.2)
def b1m (e:a0B):AV:=.g (Enc.row e)
theorem a3u {r:RdV} (h:okR r):okR (rdNum r).2:=by
 show (a1e r.s).2.1.length<_
 have h':r.s.length<4611686018427387904:=h
 cases hn:takeN r.s with
 |none=>simp [a1e,hn]
 |some q=>
  obtain ⟨n,t⟩:=q
  have:=(a1W hn).2
  simp [a1e,hn]
  omega
theorem c3A {r:RdV} (h:okR r):okR (a1d r).2:=by
 show (a0L r.s).2.1.length<_
 have h':r.s.length<4611686018427387904:=h
 cases hn:takeN r.s with
 |none=>simp [a0L,hn]
 |some q=>
  obtain ⟨n,t⟩:=q
  have:=(a1W hn).2
  simp only [a0L,hn]
  split
  ·simp;omega
  ·simp
theorem b5L {r:RdV} (h:okR r):okR (a07 r).2:=a3u (a3u (a3u h))
theorem c3B:a5r Tryz.prog 235 (mh1 253 2 (rdG okR a07 b1m)):=by
 refine a4z c7Z Tryz.func235 f0k f0l (by kernel_rfl) (by simp [b1m]) fun H T id r hid hf hr=>?_
 obtain ⟨n1,n2,n3⟩:=hf.arr hid
 have hfu:∀k d,T<=k->H (k,d)=.a0h:=hf
 have c1:=a3u hr
 have c2:=a3u c1
 obtain ⟨s,bad⟩:=r
 rcases e1:rdNum ⟨s,bad⟩ with ⟨a1,s1,b1⟩
 rw [e1] at c1 c2
 simp only at c1 c2
 rcases e2:rdNum ⟨s1,b1⟩ with ⟨a2,s2,b2⟩
 rw [e2] at c2
 simp only at c2
 rcases e3:rdNum ⟨s2,b2⟩ with ⟨a3,s3,b3⟩
 have e4:a07 ⟨s,bad⟩=(⟨a1,a2,a3⟩,⟨s3,b3⟩):=by simp [a07,e1,e2,e3]
 simp [f0j,hid,hfu,hr,c1,c2,e1,e2,e3,e4,a0W,b0s,b1m,n1,n2]
 (repeat' (first|exact a0v.refl _ _|assumption|(refine a0v.set ?_ (by first|(right;simp;done)|(left;simp [hfu];done)|(left;exact hfu _ _ (by omega))|(left;assumption)))))
open Go Go.Proofs
def a0O:Nat->RdV->List a0B×RdV
 |0,r=>([],r)
 |n+1,r=>((a0O n r).1++[(a07 (a0O n r).2).1],(a07 (a0O n r).2).2)
def a7M (r:RdV):OpV×RdV:=
 let a:=rdNum r
 let b:=rdNum a.2
 let c:=rdNum b.2
 if c.1=2 then
  let d:=rdNum c.2
  let e:=rdNum d.2
  let f:=rdNum e.2
  (⟨a.1,b.1,c.1,⟨0,0,0⟩,[],[],d.1,e.1,f.1⟩,⟨f.2.s,f.2.bad||!a0s ⟨a.1,b.1,c.1,⟨0,0,0⟩,[],[],d.1,e.1,f.1⟩⟩)
 else
  let d:=a07 c.2
  let e:=a1d d.2
  let f:=rdNum e.2
  let g:=a0O (min f.1.toNat 200) f.2
  (⟨a.1,b.1,c.1,d.1,e.1,g.1,0,0,0⟩,⟨g.2.s,g.2.bad||decide (200<f.1)||!a0s ⟨a.1,b.1,c.1,d.1,e.1,g.1,0,0,0⟩⟩)
def a0F (c:AC) (o:OpV):List AC:=
 [.raw (.int .i64 o.site),.raw (.int .i64 o.seq),.raw (.int .i64 o.kind),.raw (.int .i64 o.after.site),.raw (.int .i64 o.after.seq),.raw (.int .i64 o.after.i),.str o.text,c,.raw (.int .i64 o.of_),.raw (.int .i64 o.num),.raw (.int .i64 o.gen)]
def b4H (o:OpV):AV:=.g (a0F (.nw 50 3 (a0a o.gone)) o)
def b2Y:MH:=mh1 253 2 (rdG okR a07 b1m)
@[simp] theorem d6p {H:Heap} {l:List AV}:b2Y H l=(mh1 253 2 (rdG okR a07 b1m)) H l:=(rfl)
def FR2:CT:=(235,.mu b2Y)::FR1
theorem d6q:a1k Tryz.prog FR2:=⟨c3B,c7Z⟩
@[simp] theorem d1U:a0b FR2 235=some (.mu b2Y):=(rfl)
@[simp] theorem e1X {n:Nat} (h:(n==235)=false):a0b FR2 n=a0b FR1 n:=by
 simp only [Bool.or_eq_false_iff,beq_eq_false_iff_ne,ne_eq] at h
 simp [FR2,a0b,h]
theorem a7Z {r:RdV} (h:okR r):∀n,okR (a0O n r).2/\(a0O n r).1.length=n
 |0=>⟨h,rfl⟩
 |n+1=>by
  obtain ⟨h1,h2⟩:=a7Z h n
  exact ⟨b5L h1,by simp [a0O,h2]⟩
theorem b2Z (r:RdV):0<=(rdNum r).1/\(rdNum r).1<=268435456:=by
 simp only [rdNum,a1e]
 cases hn:takeN r.s with
 |none=>simp
 |some q=>
  obtain ⟨n,t⟩:=q
  have:=(a1W hn).1
  simp
  omega
theorem c0I {r:RdV} (h:okR r):(a1d r).1.length<4611686018427387904:=by
 show (a0L r.s).1.length<_
 have h':r.s.length<4611686018427387904:=h
 cases hn:takeN r.s with
 |none=>simp [a0L,hn]
 |some q=>
  obtain ⟨n,t⟩:=q
  have:=(a1W hn).2
  simp only [a0L,hn]
  split
  ·simp;omega
  ·simp
theorem c9U:a5r Tryz.prog 230 (mh1 253 2 (rdG okR a7M b4H)):=by
 refine a4z d6q Tryz.func230 f0a f0b (by kernel_rfl) (by simp [b4H,a0F]) fun H T id r hid hf hr=>?_
 obtain ⟨n1,n2,n3⟩:=hf.arr hid
 have hfu:∀k d,T<=k->H (k,d)=.a0h:=hf
 have c1:=a3u hr
 have c2:=a3u c1
 have c3:=a3u c2
 obtain ⟨s,bad⟩:=r
 rcases e1:rdNum ⟨s,bad⟩ with ⟨a1,s1,b1⟩
 rw [e1] at c1 c2 c3
 simp only at c1 c2 c3
 rcases e2:rdNum ⟨s1,b1⟩ with ⟨a2,s2,b2⟩
 rw [e2] at c2 c3
 simp only at c2 c3
 rcases e3:rdNum ⟨s2,b2⟩ with ⟨a3,s3,b3⟩
 rw [e3] at c3
 simp only at c3
 cases k:decide (a3=2)
 rotate_left
 ·have k':=of_decide_eq_true k
  have c4:=a3u c3
  have c5:=a3u c4
  rcases e4:rdNum ⟨s3,b3⟩ with ⟨a4,s4,b4⟩
  rw [e4] at c4 c5
  simp only at c4 c5
  rcases e5:rdNum ⟨s4,b4⟩ with ⟨a5,s5,b5⟩
  rw [e5] at c5
  simp only at c5
  rcases e6:rdNum ⟨s5,b5⟩ with ⟨a6,s6,b6⟩
  generalize ho:(⟨a1,a2,a3,⟨0,0,0⟩,[],[],a4,a5,a6⟩:OpV)=o
  have hoo:okO o:=by subst ho;exact ⟨by simp,by simp⟩
  have e7:a7M ⟨s,bad⟩=(o,⟨s6,b6||!a0s o⟩):=by subst ho;simp [a7M,e1,e2,e3,e4,e5,e6,k']
  cases b6
  ·simp [d5v,hid,hfu,hr,c1,c2,c3,c4,c5,e1,e2,e3,e4,e5,e6,e7,a0W,b0s,b1m,b4H,n1,n2,k,ho,hoo]
   refine ⟨by subst ho;simp [a0F],?_⟩
   (repeat' (first|exact a0v.refl _ _|assumption|(refine a0v.set ?_ (by first|(right;simp;done)|(left;simp [hfu];done)|(left;exact hfu _ _ (by omega))|(left;assumption)))))
  ·simp [d5v,hid,hfu,hr,c1,c2,c3,c4,c5,e1,e2,e3,e4,e5,e6,e7,a0W,b0s,b1m,b4H,n1,n2,k,ho,hoo]
   refine ⟨by subst ho;simp [a0F],?_⟩
   (repeat' (first|exact a0v.refl _ _|assumption|(refine a0v.set ?_ (by first|(right;simp;done)|(left;simp [hfu];done)|(left;exact hfu _ _ (by omega))|(left;assumption)))))
 ·have k':¬a3=2:=of_decide_eq_false k
  have c4:=b5L c3
  have c5:=c3A c4
  have c6:=a3u c5
  have lt:=c0I c4
  rcases e4:a07 ⟨s3,b3⟩ with ⟨⟨x1,x2,x3⟩,s4,b4⟩
  rw [e4] at c4 c5 c6 lt
  simp only at c4 c5 c6 lt
  rcases e5:a1d ⟨s4,b4⟩ with ⟨tx,s5,b5⟩
  rw [e5] at c5 c6 lt
  simp only at c5 c6 lt
  obtain ⟨hn0,hn1⟩:=b2Z ⟨s5,b5⟩
  rcases e6:rdNum ⟨s5,b5⟩ with ⟨n,s6,b6⟩
  rw [e6] at c6 hn0 hn1
  simp only at c6 hn0 hn1
  obtain ⟨m,hm⟩:∃m,m=min n.toNat 200:=⟨_,rfl⟩
  have hmi:(if 200<n then (200:Int) else n)=(m:Int):=by split<;>omega
  have hm2:m<=200:=by omega
  generalize ho:(⟨a1,a2,a3,⟨x1,x2,x3⟩,tx,(a0O m ⟨s6,b6⟩).1,0,0,0⟩:OpV)=o
  obtain ⟨cm,lm⟩:=a7Z c6 m
  have hoo:okO o:=by subst ho;exact ⟨lt,by show (a0O m ⟨s6,b6⟩).1.length<_;omega⟩
  have e7:a7M ⟨s,bad⟩=(o,⟨(a0O m ⟨s6,b6⟩).2.s,(a0O m ⟨s6,b6⟩).2.bad||decide (200<n)||!a0s o⟩):=by simp [a7M,e1,e2,e3,e4,e5,e6,k',ho,<-hm]
  simp [d5v,hid,hfu,hr,c1,c2,c3,c4,c5,c6,e1,e2,e3,e4,e5,e6,e7,a0W,b0s,b1m,b4H,b6y,n1,n2,k,hmi]
  obtain ⟨r6,hr6⟩:∃r6:RdV,r6=⟨s6,b6⟩:=⟨_,rfl⟩
  rw [<-hr6] at ho cm lm e7 c6 ⊢
  refine a1C (fun q st=>∃(i:Nat) (g:AC),i<=m/\q=m-i/\st.s 0=.c (.pt id 0 0)/\st.s 2=.c (.pt (T,2) 0 0)/\st.s 3=.c (.pt (T+1,3) 0 0)/\st.s 4=.c (.raw (.int .i64 n))/\st.s 33=.c (.raw (.int .i64 m))/\st.s 34=.c (.raw (.int .i64 i))/\
   st.H id=.arr 253 2 false [a0W (a0O i r6).2]/\st.H (T,2)=.arr 53 11 false [a0F (.raw (.slice none 0 0)) ⟨0,0,0,⟨0,0,0⟩,[],[],0,0,0⟩]/\st.H (T+1,3)=.arr 53 11 false [a0F g ⟨a1,a2,a3,⟨x1,x2,x3⟩,tx,[],0,0,0⟩]/\
   ((g=.raw (.slice none 0 0)/\i=0)\/∃j,g=.so j 0 i/\H j=.a0h/\st.H j=.arr 50 3 false (a0a (a0O i r6).1))/\a0v [id] H st.H/\T+1<st.T/\a0D st.H st.T) m ?_ ?_
  ·refine ⟨0,.raw (.slice none 0 0),by omega,by omega,?_⟩
   simp [n1,n2,hid,a0O,a0W,a0F,hr6]
   refine ⟨?_,?_⟩
   ·(repeat' (first|exact a0v.refl _ _|assumption|(refine a0v.set ?_ (by first|(right;simp;done)|(left;simp [hfu];done)|(left;exact hfu _ _ (by omega))|(left;assumption)))))
   ·repeat' (first|exact hf.mono (by first|omega|(simp<;>omega))|(refine a0D.set' ?_ (by first|omega|(simp<;>omega))))
  rintro q st ⟨i,g,hi,rfl,q0,q2,q3,q4,q33,q34,h1,h2,h3,hg,hsb,hT,hf'⟩
  have b6w:∀k d,st.T<=k->st.H (k,d)=.a0h:=hf'
  obtain ⟨ci,li⟩:=a7Z c6 i
  rcases er:(a0O i r6).2 with ⟨si,bi⟩
  rw [er] at h1 ci
  by_cases hlt:i<m
  ·have hlt':(i:Int)<m:=by omega
   have hw:IntKind.wrap .i64 ((i:Int)+1)=((i+1:Nat):Int):=by rw [a0d]<;>omega
   rcases e8:a07 ⟨si,bi⟩ with ⟨⟨y1,y2,y3⟩,s9,b9⟩
   obtain ⟨p1,p2,p3⟩:=hf'.arr h1
   obtain ⟨p4,p5,p6⟩:=hf'.arr h3
   have e9:(a0O (i+1) r6)=((a0O i r6).1++[⟨y1,y2,y3⟩],⟨s9,b9⟩):=by simp [a0O,er,e8]
   have ht:a0a (a0O (i+1) r6).1=a0a (a0O i r6).1++[Enc.row (⟨y1,y2,y3⟩:a0B)]:=by rw [e9,a4b]
   have d1:=n2 (T+1) 3 (by omega)
   have d2:=n1 (T+1) 3 (by omega)
   rcases hg with ⟨rfl,rfl⟩|⟨j,rfl,hju,hj⟩
   ·simp [a7q,q0,q2,q3,q4,q33,q34,h1,h2,h3,hlt,hlt',hw,b6w,ci,e8,b1m,a0W,a0F,p1,p2,p4,p5,d1,d2]
    refine ⟨by omega,m-1,by omega,1,by omega,rfl,rfl,?_,by rw [n1 T 2 (Nat.le_refl _)];simp,⟨_,_,⟨⟨rfl,rfl⟩,rfl⟩,hfu _ _ (by omega),?_⟩,?_⟩
    ·have:=e9
     simp at this
     rw [this]
     exact ⟨rfl,rfl⟩
    ·simp at ht
     rw [ht]
     simp [a0O]
    ·refine ⟨?_,by omega,?_⟩
     ·(repeat' (first|exact a0v.refl _ _|assumption|(refine a0v.set ?_ (by first|(right;simp;done)|(left;simp [hfu];done)|(left;exact hfu _ _ (by omega))|(left;assumption)))))
     ·have hf:=hf'
      repeat' (first|exact hf.mono (by first|omega|(simp<;>omega))|(refine a0D.set' ?_ (by first|omega|(simp<;>omega))))
   ·obtain ⟨p7,p8,p9⟩:=hf'.arr hj
    have ne:∀{x:Id} {e sz:Nat} {f:Bool} {rows:List (List AC)},st.H x=.arr e sz f rows->e≠50->(j=x)=False/\(x=j)=False:=by
     intro x e sz f rows hx he
     constructor
     ·simp;rintro rfl;rw [hx] at hj;simp at hj;exact he hj.1
     ·simp;rintro rfl;rw [hx] at hj;simp at hj;exact he hj.1
    obtain ⟨g1,g2⟩:=ne h1 (by decide)
    obtain ⟨g3,g4⟩:=ne h2 (by decide)
    obtain ⟨g5,g6⟩:=ne h3 (by decide)
    simp [a7q,q0,q2,q3,q4,q33,q34,h1,h2,h3,hlt,hlt',hw,b6w,ci,e8,b1m,a0W,a0F,p1,p2,p4,p5,d1,d2,hj,p7,p8,g1,g2,g3,g4,g5,g6,li]
    refine ⟨⟨by omega,by omega⟩,by omega,m-(i+1),by omega,i+1,by omega,rfl,rfl,?_,by rw [n1 T 2 (Nat.le_refl _)];simp,⟨_,_,⟨⟨rfl,rfl⟩,rfl⟩,hfu _ _ (by omega),?_⟩,?_⟩
    ·rw [e9]
     exact ⟨rfl,rfl⟩
    ·rw [ht]
     simp
    ·refine ⟨?_,by omega,?_⟩
     ·(repeat' (first|exact a0v.refl _ _|assumption|(refine a0v.set ?_ (by first|(right;simp;done)|(left;simp [hfu];done)|(left;exact hfu _ _ (by omega))|(left;assumption)))))
     ·have hf:=hf'
      repeat' (first|exact hf.mono (by first|omega|(simp<;>omega))|(refine a0D.set' ?_ (by first|omega|(simp<;>omega))))
  ·have:i=m:=by omega
   subst this
   have hf0:=hf
   have d3:((T,2)=id)=False:=n1 T 2 (Nat.le_refl _)
   have d4:(id=(T,2))=False:=n2 T 2 (Nat.le_refl _)
   obtain ⟨p1,p2,p3⟩:=hf'.arr h1
   have d1:=n2 (T+1) 3 (by omega)
   have d2:=n1 (T+1) 3 (by omega)
   rw [er] at e7
   have og:o.gone=(a0O i r6).1:=by rw [<-ho]
   rcases hg with ⟨rfl,rfl⟩|⟨j,rfl,hju,hj⟩
   ·have ho':(⟨a1,a2,a3,⟨x1,x2,x3⟩,tx,[],0,0,0⟩:OpV)=o:=by rw [<-ho];rfl
    have hx:(a0a o.gone)=[]:=by rw [og];rfl
    cases c:(bi||decide (200<n))
    ·obtain ⟨c1,c2⟩:=Bool.or_eq_false_iff.1 c
     subst c1
     simp [a7q,er,q0,q2,q3,q4,q33,q34,h1,h2,h3,b6w,a0W,a0F,p1,p2,d1,d2,d3,d4,c2,ho',hoo,hx]
     refine ⟨by rw [<-ho];simp,?_⟩
     (repeat' (first|exact a0v.refl _ _|assumption|(refine a0v.set ?_ (by first|(right;simp;done)|(left;simp [hfu];done)|(left;exact hfu _ _ (by omega))|(left;assumption)))))
    ·cases bi
     ·simp only [Bool.false_or] at c
      simp [a7q,er,q0,q2,q3,q4,q33,q34,h1,h2,h3,b6w,a0W,a0F,p1,p2,d1,d2,d3,d4,c,ho',hoo,hx]
      refine ⟨by rw [<-ho];simp,?_⟩
      (repeat' (first|exact a0v.refl _ _|assumption|(refine a0v.set ?_ (by first|(right;simp;done)|(left;simp [hfu];done)|(left;exact hfu _ _ (by omega))|(left;assumption)))))
     ·simp [a7q,er,q0,q2,q3,q4,q33,q34,h1,h2,h3,b6w,a0W,a0F,p1,p2,d1,d2,d3,d4,ho',hoo,hx]
      refine ⟨by rw [<-ho];simp,?_⟩
      (repeat' (first|exact a0v.refl _ _|assumption|(refine a0v.set ?_ (by first|(right;simp;done)|(left;simp [hfu];done)|(left;exact hfu _ _ (by omega))|(left;assumption)))))
   ·have ho':(⟨a1,a2,a3,⟨x1,x2,x3⟩,tx,(a0O i r6).1,0,0,0⟩:OpV)=o:=ho
    obtain ⟨p7,p8,p9⟩:=hf'.arr hj
    have ne:∀{x:Id} {e sz:Nat} {f:Bool} {rows:List (List AC)},st.H x=.arr e sz f rows->e≠50->(j=x)=False/\(x=j)=False:=by
     intro x e sz f rows hx he
     constructor
     ·simp;rintro rfl;rw [hx] at hj;simp at hj;exact he hj.1
     ·simp;rintro rfl;rw [hx] at hj;simp at hj;exact he hj.1
    have htk:List.take i (a0a (a0O i r6).1)=a0a (a0O i r6).1:=List.take_of_length_le (by simp [a0a,li])
    obtain ⟨g1,g2⟩:=ne h1 (by decide)
    obtain ⟨g3,g4⟩:=ne h2 (by decide)
    obtain ⟨g5,g6⟩:=ne h3 (by decide)
    cases c:(bi||decide (200<n))
    ·obtain ⟨c1,c2⟩:=Bool.or_eq_false_iff.1 c
     subst c1
     simp [a7q,er,q0,q2,q3,q4,q33,q34,h1,h2,h3,b6w,a0W,a0F,p1,p2,d1,d2,d3,d4,c2,ho',hoo,hj,p7,p8,g1,g2,g3,g4,g5,g6,li,og,htk]
     refine ⟨by rw [<-ho];simp,fun a b h=>by rw [h];exact hju,?_⟩
     (repeat' (first|exact a0v.refl _ _|assumption|(refine a0v.set ?_ (by first|(right;simp;done)|(left;simp [hfu];done)|(left;exact hfu _ _ (by omega))|(left;assumption)))))
    ·cases bi
     ·simp only [Bool.false_or] at c
      simp [a7q,er,q0,q2,q3,q4,q33,q34,h1,h2,h3,b6w,a0W,a0F,p1,p2,d1,d2,d3,d4,c,ho',hoo,hj,p7,p8,g1,g2,g3,g4,g5,g6,li,og,htk]
      refine ⟨by rw [<-ho];simp,fun a b h=>by rw [h];exact hju,?_⟩
      (repeat' (first|exact a0v.refl _ _|assumption|(refine a0v.set ?_ (by first|(right;simp;done)|(left;simp [hfu];done)|(left;exact hfu _ _ (by omega))|(left;assumption)))))
     ·simp [a7q,er,q0,q2,q3,q4,q33,q34,h1,h2,h3,b6w,a0W,a0F,p1,p2,d1,d2,d3,d4,ho',hoo,hj,p7,p8,g1,g2,g3,g4,g5,g6,li,og,htk]
      refine ⟨by rw [<-ho];simp,fun a b h=>by rw [h];exact hju,?_⟩
      (repeat' (first|exact a0v.refl _ _|assumption|(refine a0v.set ?_ (by first|(right;simp;done)|(left;simp [hfu];done)|(left;exact hfu _ _ (by omega))|(left;assumption)))))
open Go Go.Proofs
theorem a7u (g:FuncId) (caps:List AC) (p:List UInt8->Bool) (l:List (List UInt8)) (hl:l.length<1000000) (b0o:∀c∈caps,b6K c) (b8V:a4m a0t (caps.map .c)=some (caps.map .c)) (c46:a4t a0t caps=some caps)
  (hp:∀s∈l,PEv Tryz.prog g (.c (.str s)::caps.map .c) (.c (.raw (.bool (p s))))) :
  PEv Tryz.prog 126 [.c (.sl .brw false (a0a l)),.c (.fn g caps)] (.c (.raw (.bool (l.any p)))):=by
 have hF:a1k Tryz.prog []:=trivial
 refine a0e mixed hF Tryz.func126 e4C e4D (by kernel_rfl) (by simp) (by simpa using b0o) ?_
 simp [e4B]
 refine a0T (b0A g caps p l hl b0o b8V hp) (by simp [c46]) (by simp) (by simp) ?_
 simp
 rw [Bool.eq_iff_iff,decide_eq_true_iff]
 exact a3P p l 0
theorem b20 (g:FuncId) (caps:List AC) (p:a4o->Bool) (l:List a4o) (hl:l.length<1000000) (b0o:∀c∈caps,b6K c) (b8V:a4m a0t (caps.map .c)=some (caps.map .c)) (c46:a4t a0t caps=some caps)
  (hp:∀s∈l,PEv Tryz.prog g (.g [.raw (.int .i64 s.at_),.str s.text]::caps.map .c) (.c (.raw (.bool (p s))))) :
  PEv Tryz.prog 128 [.c (.sl .brw false (a0a l)),.c (.fn g caps)] (.c (.raw (.bool (l.any p)))):=by
 have hF:a1k Tryz.prog []:=trivial
 refine a0e mixed hF Tryz.func128 e4I e4J (by kernel_rfl) (by simp) (by simpa using b0o) ?_
 simp [e4H]
 refine a0T (b0B g caps p l hl b0o b8V hp) (by simp [c46]) (by simp) (by simp) ?_
 simp
 rw [Bool.eq_iff_iff,decide_eq_true_iff]
 exact a3P p l 0
def a4H (s:List UInt8):Bool:=decide (s.length=32)
theorem c9V (s:List UInt8):PEv Tryz.prog 127 [.c (.str s)] (.c (.raw (.bool (!a4H s)))):=by
 refine a0e mixed b2e Tryz.func127 e4F e4G (by kernel_rfl) (by simp) (by simp) ?_
 simp [e4E,a4H]
def a2T (n:Nat) (x:a4o):Bool:=!a4H x.text||decide (x.at_<0)||decide ((n:Int)<=x.at_)
theorem c9W (d:a0l) (x:a4o):PEv Tryz.prog 129 [.g [.raw (.int .i64 x.at_),.str x.text],.c (.pv .brw [.sl .brw false (a0a d.safe),.sl .brw false (a0a d.wait)] 0)] (.c (.raw (.bool (a2T d.safe.length x)))):=by
 refine a0e mixed b2e Tryz.func129 e4L e4M (by kernel_rfl) (by simp) (by simp) ?_
 simp [e4K,a2T,a4H]
 omega
open Go Go.Proofs
def a2d (d:a0l):Bool:=decide (1<=d.safe.length)&&decide (d.safe.length<=400)&&decide (d.wait.length<=400)&&d.safe.all a4H&&d.wait.all fun x=>!a2T d.safe.length x
theorem c9X {α:Type} (p:α->Bool) (l:List α):(l.any fun x=>!p x)=!l.all p:=by
 induction l with
 |nil=>rfl
 |cons x r ih=>simp [ih]
theorem c3C (d:a0l) (h1:d.safe.length<1000000) (h2:d.wait.length<1000000):PEv Tryz.prog 74 [Arg.enc d] (.c (.raw (.bool (a2d d)))):=by
 refine a0e mixed b2e Tryz.func74 f4j f4k (by kernel_rfl) (by simp) (by simp) ?_
 simp [s74]
 refine ⟨fun g1=>⟨fun g2=>⟨fun g3=>?_,fun g3=>?_⟩,fun g2=>?_⟩,fun g1=>?_⟩
 ·simp [a2d];omega
 ·refine a0T (a7u 127 [] (fun s=>!a4H s) d.safe h1 (by simp) (by simp) (by simp) fun s _=>c9V s) ?_ (by simp) (by simp) ?_
  ·simp
  ·simp
   refine ⟨fun s hs hx=>?_,fun hs=>?_⟩
   ·simp [a2d];intro _ _ _ ha;rw [ha s hs] at hx;cases hx
   ·refine a0T (b20 129 [.pv .brw [.sl .brw false (a0a d.safe),.sl .brw false (a0a d.wait)] 0] (a2T d.safe.length) d.wait h2 (by simp) (by simp) (by simp) fun x _=>c9W d x) ?_ (by simp) (by simp) ?_
    ·simp
    ·simp
     have e:d.safe.all a4H=true:=List.all_eq_true.2 hs
     have e2:d.wait.any (a2T d.safe.length)=!d.wait.all fun x=>!a2T d.safe.length x:=by rw [<-c9X];simp
     rw [e2,a2d,e]
     simp [show 1<=d.safe.length by omega,show d.safe.length<=400 by omega,show d.wait.length<=400 by omega]
 ·simp [a2d];omega
 ·simp [a2d];omega
theorem a7v {α:Type} {p:α->Bool} {l:List α} {i:Nat} (h:(l.take i).all p=true) (hi:i<l.length) (hp:p l[i]=true):(l.take (i+1)).all p=true:=by
 rw [List.take_add_one,List.all_append,h];simp [hi,hp]
theorem a5Q {α:Type} {p:α->Bool} {l:List α} {i:Nat} (hi:i<l.length) (hp:p l[i]=false):l.all p=false:=by
 rw [List.all_eq_false];exact ⟨l[i],List.getElem_mem hi,by simp [hp]⟩
def a5R (d:a0l) (H:Heap) (i:Id):Prop:=H i=.arr 25 2 false [[.sl .brw false (a0a d.safe),.sl .brw false (a0a d.wait)]]
theorem c0J {F:CT} (d:a0l) (h1:d.safe.length<281474976710656) {Q:AEx->St->Prop} {st:St} (k1:st.s 1=.c (.pt (0,1) 0 0)) (kH:a5R d st.H (0,1)) (k3:st.s 3=.c (.raw (.int .i64 0)))
  (hn:∀st',st'.s 1=.c (.pt (0,1) 0 0)->a5R d st'.H (0,1)->d.safe.all a4H=true->Q (.exit 0) st') (hr:∀st',st'.s 2=.c (.raw (.bool false))->d.safe.all a4H=false->Q .ret st') :
  a2K Tryz.prog F (.loop c2d) Q st:=by
 refine a1C (fun n st=>∃i:Nat,i<=d.safe.length/\n=d.safe.length-i/\st.s 1=.c (.pt (0,1) 0 0)/\a5R d st.H (0,1)/\st.s 3=.c (.raw (.int .i64 i))/\(d.safe.take i).all a4H=true) d.safe.length ⟨0,by simp [k1,kH,k3]⟩ ?_
 rintro n st ⟨i,hi,rfl,k1,kH',k3,ha⟩
 have kH:=kH'
 unfold a5R at kH
 by_cases hlt:i<d.safe.length
 ·have e2:IntKind.wrap .i64 ((i:Int)+1)=((i+1:Nat):Int):=by rw [a0d]<;>omega
  simp [c2d,k1,kH,k3,hlt,e2]
  refine ⟨fun hne=>hr _ (by simp) (a5Q (p:=a4H) hlt (by simp [a4H];omega)),fun he=>⟨d.safe.length-(i+1),by omega,i+1,by omega,rfl,kH',rfl,?_⟩⟩
  have:=a7v ha hlt (by simp [a4H];omega)
  simpa using this
 ·have:i=d.safe.length:=by omega
  subst this
  rw [List.take_length] at ha
  simp [c2d,k1,kH,k3,hlt]
  exact hn _ (by simp [k1]) (by simp [kH']) ha
theorem c0K {F:CT} (d:a0l) (h0:1<=d.safe.length) (h1:d.safe.length<281474976710656) (h2:d.wait.length<281474976710656) {Q:AEx->St->Prop} {st:St} (k1:st.s 1=.c (.pt (0,1) 0 0)) (kH:a5R d st.H (0,1)) (k3:st.s 4=.c (.raw (.int .i64 0)))
  (hF:a0b F 63=a0b F2 63)
  (hn:∀st',(d.wait.all fun x=>!a2T d.safe.length x)=true->Q (.exit 2) st') (hr:∀st',st'.s 2=.c (.raw (.bool false))->(d.wait.all fun x=>!a2T d.safe.length x)=false->Q .ret st') :
  a2K Tryz.prog F (.loop c5O) Q st:=by
 refine a1C (fun n st=>∃i:Nat,i<=d.wait.length/\n=d.wait.length-i/\st.s 1=.c (.pt (0,1) 0 0)/\a5R d st.H (0,1)/\st.s 4=.c (.raw (.int .i64 i))/\(d.wait.take i).all (fun x=>!a2T d.safe.length x)=true) d.wait.length ⟨0,by simp [k1,kH,k3]⟩ ?_
 rintro n st ⟨i,hi,rfl,k1,kH',k3,ha⟩
 have kH:=kH'
 unfold a5R at kH
 by_cases hlt:i<d.wait.length
 ·have e2:IntKind.wrap .i64 ((i:Int)+1)=((i+1:Nat):Int):=by rw [a0d]<;>omega
  have e3:IntKind.wrap .i64 ((d.safe.length:Int)-1)=(d.safe.length:Int)-1:=by rw [a0d]<;>omega
  simp [c5O,k1,kH,k3,hlt,e2,e3,hF]
  refine ⟨fun a b=>⟨fun hne=>hr _ (by simp) (a5Q (p:=fun x=>!a2T d.safe.length x) hlt (by simp [a2T,a4H];omega)),fun he=>⟨d.wait.length-(i+1),by omega,i+1,by omega,rfl,kH',rfl,?_⟩⟩,fun a=>hr _ (by simp) (a5Q (p:=fun x=>!a2T d.safe.length x) hlt (by simp [a2T,a4H];omega))⟩
  have:=a7v ha hlt (by simp [a2T,a4H];omega)
  simpa using this
 ·have:i=d.wait.length:=by omega
  subst this
  rw [List.take_length] at ha
  simp [c5O,k1,kH,k3,hlt]
  exact hn _ ha
theorem b1n (d:a0l) (h1:d.safe.length<281474976710656) (h2:d.wait.length<281474976710656):PEv Tryz.prog 47 [Arg.enc d] (.c (.raw (.bool (a2d d)))):=by
 refine a0e mixed c9N Tryz.func47 f3V f3W (by kernel_rfl) (by simp) (by simp) ?_
 simp [s47]
 repeat' (first|(intro _)|(with_reducible apply And.intro))
 ·simp [a2d];omega
 ·refine c0J d h1 (by simp) (by simp [a5R]) (by simp) ?_ ?_
  ·intro st' k1 kH hs
   simp [k1]
   refine c0K d (by omega) h1 h2 (by simp [k1]) kH (by simp) rfl ?_ ?_
   ·intro st' hw
    simp
    rw [a2d,hs,hw]
    simp [show 1<=d.safe.length by omega,show d.safe.length<=400 by omega,show d.wait.length<=400 by omega]
   ·intro st' k2 hw
    simp [k2]
    rw [a2d,hw];simp
  ·intro st' k2 hs
   simp [k2]
   rw [a2d,hs];simp
 all_goals (simp [a2d];omega)
open Go Go.Proofs
def b1o (safe:List (List UInt8)) (w:a4o) (k:Int):List (List UInt8):=
 if k=1 then safe.set w.at_.toNat w.text else if k=2 then safe.set w.at_.toNat (w.text.take 16++(safe.getD w.at_.toNat []).drop 16) else safe
def a2r (keep:List Int) (i:Nat):Int:=if (keep.getD i 0)<0 then 0 else (keep.getD i 0)%3
def a1D (keep:List Int):Nat->List (List UInt8)->List a4o->List (List UInt8)
 |_,safe,[]=>safe
 |i,safe,w::r=>a1D keep (i+1) (b1o safe w (a2r keep i)) r
def a4A:List (List UInt8)->List a4o->List (List UInt8)
 |safe,[]=>safe
 |safe,w::r=>a4A (safe.set w.at_.toNat w.text) r
theorem a6R (safe:List (List UInt8)) (w:a4o) (k:Int):(b1o safe w k).length=safe.length:=by
 unfold b1o;split<;>(try split)<;>simp
theorem a3K (keep:List Int):∀(l:List a4o) (i:Nat) (safe:List (List UInt8)),(a1D keep i safe l).length=safe.length
 |[],_,_=>rfl
 |w::r,i,safe=>by rw [a1D,a3K,a6R]
theorem a9P {d:a0l} (h:a2d d=true):1<=d.safe.length/\d.safe.length<=400/\d.wait.length<=400/\(∀s∈d.safe,s.length=32)/\∀x∈d.wait,x.text.length=32/\0<=x.at_/\x.at_<d.safe.length:=by
 simp only [a2d,Bool.and_eq_true,decide_eq_true_eq,List.all_eq_true] at h
 obtain ⟨⟨⟨⟨h1,h2⟩,h3⟩,h4⟩,h5⟩:=h
 refine ⟨h1,h2,h3,fun s hs=>by simpa [a4H] using h4 s hs,fun x hx=>?_⟩
 have:=h5 x hx
 simp [a2T,a4H] at this
 omega
theorem c3D {α:Type} {p:α->Prop} {l:List α} {i:Nat} {x:α} (h:∀s∈l,p s) (hx:p x):∀s∈l.set i x,p s:=fun s hs=>by
 rcases List.mem_or_eq_of_mem_set hs with q|q
 ·exact h s q
 ·rw [q];exact hx
theorem b9C {safe:List (List UInt8)} {w:a4o} {k:Int} (h:∀s∈safe,s.length=32) (hw:w.text.length=32) (h0:0<=w.at_) (h1:w.at_<safe.length):∀s∈b1o safe w k,s.length=32:=by
 unfold b1o
 split
 ·exact c3D h hw
 ·split
  ·refine c3D h ?_
   have:w.at_.toNat<safe.length:=by omega
   have:=h (safe.getD w.at_.toNat []) (by simp [List.getD,this])
   simp [hw] at this ⊢
   omega
  ·exact h
def a71 (d:a0l):OK:=.arr 25 2 false [[.sl .brw false (a0a d.safe),.sl .brw false (a0a d.wait)]]
def b7m (H:Heap) (v i:Id) (safe:List (List UInt8)):Prop:=H v=.arr 25 2 false [[.so i 0 safe.length,.raw (.slice none 0 0)]]/\H i=.arr 9 1 false (a0a safe)/\v≠i
theorem b5M {keep:List Int} {i:Nat} (hk:i<keep.length):keep.getD i 0=keep[i]:=by simp [List.getD,hk]
theorem a4V {l:List (List UInt8)} {i:Nat} {a:List UInt8}:a0a (l.set i a)=(a0a l).set i [AC.str a]:=(c2x l i a).symm
theorem b5N {F:CT} (d:a0l) (keep:List Int) (hd:a2d d=true) (hkl:keep.length<281474976710656) {Q:AEx->St->Prop} {st:St} (b v i:Id) (k6:st.s 6=.c (.pt v 0 0)) (b4:Id) (k4:st.s 4=.c (.pt b4 0 0))
  (k1:st.s 1=.c (.sl .brw false (a0a keep))) (kv:b7m st.H v i d.safe) (k18:st.s 18=.c (.sl .brw false (a0a d.wait))) (k19:st.s 19=.c (.raw (.int .i64 d.wait.length))) (k20:st.s 20=.c (.raw (.int .i64 0)))
  (hf:a0D st.H st.T)
  (hn:∀st',st'.s 6=.c (.pt v 0 0)->st'.s 4=.c (.pt b4 0 0)->st'.H i=.arr 9 1 false (a0a (a1D keep 0 d.safe d.wait))->a3b [i] st.H st.T st'.H st'.T->Q (.exit 0) st') :
  a2K Tryz.prog F (.loop b5g) Q st:=by
 obtain ⟨hd1,hd2,hd3,hd4,hd5⟩:=a9P hd
 obtain ⟨kv,ki,hvi⟩:=kv
 refine a1C (fun n st'=>∃(j:Nat) (safe:List (List UInt8)),j<=d.wait.length/\n=d.wait.length-j/\safe.length=d.safe.length/\(∀s∈safe,s.length=32)/\st'.s 6=.c (.pt v 0 0)/\st'.s 4=.c (.pt b4 0 0)/\
  st'.s 1=.c (.sl .brw false (a0a keep))/\st'.H i=.arr 9 1 false (a0a safe)/\st'.s 18=.c (.sl .brw false (a0a d.wait))/\st'.s 19=.c (.raw (.int .i64 d.wait.length))/\st'.s 20=.c (.raw (.int .i64 j))/\a3b [i] st.H st.T st'.H st'.T/\
  a1D keep j safe (d.wait.drop j)=a1D keep 0 d.safe d.wait) d.wait.length ⟨0,d.safe,by simp [k6,k4,k1,ki,k18,k19,k20,a3b.refl hf];exact hd4⟩ ?_
 rintro n st' ⟨j,safe,hj,rfl,hl,hs,k6,k4,k1,ki,k18,k19,k20,he,hc⟩
 have hf':=he.fresh
 have kv:=he.arr kv (by simpa using hvi)
 obtain ⟨f4,f5,f6⟩:=hf'.arr kv
 obtain ⟨f7,f8,f9⟩:=hf'.arr ki
 have hfu:∀k d,st'.T<=k->st'.H (k,d)=.a0h:=hf'
 have hT:=he.2.2.1
 have hiv:(i=v)=False:=by simp only [eq_iff_iff,iff_false];exact fun e=>hvi e.symm
 by_cases hlt:j<d.wait.length
 ·have e2:IntKind.wrap .i64 ((j:Int)+1)=((j+1:Nat):Int):=by rw [a0d]<;>omega
  obtain ⟨w1,w2,w3⟩:=hd5 d.wait[j] (List.getElem_mem hlt)
  have w4:d.wait[j].at_.toNat<safe.length:=by omega
  have w5:d.wait[j].at_<safe.length:=by omega
  have w5':d.wait[j].at_<d.safe.length:=w3
  have w6:=hs safe[d.wait[j].at_.toNat] (List.getElem_mem w4)
  rw [List.drop_eq_getElem_cons hlt,a1D] at hc
  have hlen:(b1o safe d.wait[j] (a2r keep j)).length=d.safe.length:=by rw [a6R,hl]
  have b0M:=b9C (k:=a2r keep j) hs w1 w2 w5
  by_cases hk:j<keep.length
  ·have t3:0<=keep[j]->keep[j].tmod 3=keep[j]%3:=fun h=>Int.tmod_eq_emod_of_nonneg h
   have kA:a2r keep j=if keep[j]<0 then 0 else keep[j]%3:=by rw [a2r,b5M hk]
   have hk':(keep.length<=j)=False:=by simp;omega
   by_cases g:keep[j]<0
   ·simp [b5g,k6,k4,k1,kv,ki,k18,k19,k20,hlt,e2,f4,f5,f7,f8,hfu,hk,hk',w1,w2,w4,w5',hiv,w6,g]
    refine ⟨d.wait.length-(j+1),by omega,j+1,by omega,rfl,_,hlen,b0M,?_,rfl,?_,hc⟩
    ·rw [kA,if_pos g];simp [b1o]
    ·repeat' (first|exact he.tick (by first|omega|(simp<;>omega))|(refine a3b.new ?_ (by first|omega|(simp<;>omega)) (by first|omega|(simp<;>omega)))|(refine a3b.set ?_ (by simp) (by first|omega|(simp<;>omega))))
   ·have g':(keep[j]<0)=False:=by simp;omega
    by_cases g1:keep[j].tmod 3=1
    ·simp [b5g,k6,k4,k1,kv,ki,k18,k19,k20,hlt,e2,f4,f5,f7,f8,hfu,hk,hk',w1,w2,w4,w5',hiv,w6,g',g1]
     refine ⟨d.wait.length-(j+1),by omega,j+1,by omega,rfl,_,hlen,b0M,?_,rfl,?_,hc⟩
     ·rw [kA,if_neg (by omega),<-t3 (by omega),g1];simp [b1o,a4V]
     ·repeat' (first|exact he.tick (by first|omega|(simp<;>omega))|(refine a3b.new ?_ (by first|omega|(simp<;>omega)) (by first|omega|(simp<;>omega)))|(refine a3b.set ?_ (by simp) (by first|omega|(simp<;>omega))))
    ·by_cases g2:keep[j].tmod 3=2
     ·simp [b5g,k6,k4,k1,kv,ki,k18,k19,k20,hlt,e2,f4,f5,f7,f8,hfu,hk,hk',w1,w2,w4,w5',hiv,w6,g',g1,g2]
      refine ⟨d.wait.length-(j+1),by omega,j+1,by omega,rfl,_,hlen,b0M,?_,rfl,?_,hc⟩
      ·rw [kA,if_neg (by omega),<-t3 (by omega),g2];simp [b1o,a4V,w4,List.take_of_length_le (Nat.le_of_eq w6)]
      ·repeat' (first|exact he.tick (by first|omega|(simp<;>omega))|(refine a3b.new ?_ (by first|omega|(simp<;>omega)) (by first|omega|(simp<;>omega)))|(refine a3b.set ?_ (by simp) (by first|omega|(simp<;>omega))))
     ·simp [b5g,k6,k4,k1,kv,ki,k18,k19,k20,hlt,e2,f4,f5,f7,f8,hfu,hk,hk',w1,w2,w4,w5',hiv,w6,g',g1,g2]
      refine ⟨d.wait.length-(j+1),by omega,j+1,by omega,rfl,_,hlen,b0M,?_,rfl,?_,hc⟩
      ·rw [kA,if_neg (by omega),<-t3 (by omega)];simp [b1o,g1,g2]
      ·repeat' (first|exact he.tick (by first|omega|(simp<;>omega))|(refine a3b.new ?_ (by first|omega|(simp<;>omega)) (by first|omega|(simp<;>omega)))|(refine a3b.set ?_ (by simp) (by first|omega|(simp<;>omega))))
  ·have kA:a2r keep j=0:=by simp [a2r,List.getD,hk]
   simp [b5g,k6,k4,k1,kv,ki,k18,k19,k20,hlt,e2,f4,f5,f7,f8,hfu,hk,w1,w2,w4,w5',hiv,w6]
   refine fun _=>⟨d.wait.length-(j+1),by omega,j+1,by omega,rfl,_,hlen,b0M,?_,rfl,?_,hc⟩
   ·rw [kA];simp [b1o]
   ·repeat' (first|exact he.tick (by first|omega|(simp<;>omega))|(refine a3b.new ?_ (by first|omega|(simp<;>omega)) (by first|omega|(simp<;>omega)))|(refine a3b.set ?_ (by simp) (by first|omega|(simp<;>omega))))
 ·have:j=d.wait.length:=by omega
  subst this
  simp [b5g,k6,k1,kv,ki,k18,k19,k20,hlt]
  rw [List.drop_length,a1D] at hc
  exact hn _ (by simp [k6]) (by simp [k4]) (by rw [<-hc];simpa using ki) (he.tick (by simp))
open Go Go.Proofs
def c3E:List AV->Option (Prop×AV):=t1 (fun d:a0l=>d.safe.length<1000000/\d.wait.length<1000000) fun d:a0l=>.c (.raw (.bool (a2d d)))
@[simp] theorem f0H {l:List AV}:c3E l=(t1 (fun d:a0l=>d.safe.length<1000000/\d.wait.length<1000000) fun d:a0l=>.c (.raw (.bool (a2d d)))) l:=(rfl)
def c3F:List AV->Option (Prop×AV):=t1 (fun d:a0l=>d.safe.length<1000000/\d.wait.length<1000000) fun d:a0l=>.g (a0z d)
@[simp] theorem f0I {l:List AV}:c3F l=(t1 (fun d:a0l=>d.safe.length<1000000/\d.wait.length<1000000) fun d:a0l=>.g (a0z d)) l:=(rfl)
def d6r:List AV->Option (Prop×AV):=t1 (fun d:a0l=>d.safe.length<281474976710656/\d.wait.length<281474976710656) fun d:a0l=>.c (.raw (.bool (a2d d)))
def c3G:List AV->Option (Prop×AV):=t0 (.c (.str blank))
@[simp] theorem f0J {l:List AV}:c3G l=(t0 (.c (.str blank))) l:=(rfl)
def F4:CT:=(74,.pu c3E)::(84,.pu c3F)::(47,.pu d6r)::(38,.pu c3G)::F3
theorem a7w:a1k Tryz.prog F4:=⟨a0n fun d h=>c3C d h.1 h.2,
 a0n fun d h=>b2n d h.1 h.2,
 a0n fun d h=>b1n d h.1 h.2,
 b5s b1a,d5A⟩
@[simp] theorem e1Y:a0b F4 74=some (.pu c3E):=(rfl)
@[simp] theorem e1Z:a0b F4 84=some (.pu c3F):=(rfl)
@[simp] theorem e11:a0b F4 38=some (.pu c3G):=(rfl)
@[simp] theorem f0K {n:Nat} (h:(n==74||n==84||n==47||n==38)=false):a0b F4 n=a0b F3 n:=by
 simp only [Bool.or_eq_false_iff,beq_eq_false_iff_ne,ne_eq] at h
 simp [F4,a0b,h]
def a4W (d:a0l) (keep:List Int):a0l×Int:=if a2d d=true then (⟨a1D keep 0 d.safe d.wait,[]⟩,0) else (⟨[],[]⟩,1)
def a1l (r:a0l×Int):AV:=.t [(true,a0z r.1),(false,[.raw (.int .i64 r.2)])]
theorem a5S (d:a0l) (keep:List Int) (h1:d.safe.length<1000000) (h2:d.wait.length<1000000) (h3:keep.length<281474976710656) :
  PEv Tryz.prog 40 [Arg.enc d,.c (.sl .brw false (a0a keep))] (a1l (a4W d keep)):=by
 refine a0e mixed a7w Tryz.func40 f3R f3S (by kernel_rfl) (by simp [a1l,a0z]) (by simp) ?_
 unfold a4W
 by_cases hm:a2d d=true
 ·simp [s40,h1,h2,hm]
  refine b5N d keep hm h3 (0,2) (2,6) (2,16384) (by simp) (0,4) (by simp) (by simp) ⟨by simp,by simp,by simp⟩ (by simp) (by simp) (by simp) (by (simp;repeat' (first|exact a1i.mono (Nat.zero_le _)|(refine a0D.set' ?_ (by simp))))) ?_
  intro st' k6 k4 ki he
  have kv:=he.1 (2,6)
  have k4':=he.1 (0,4)
  simp at kv k4'
  simp [k6,k4,kv,k4',ki,a3K,a1l,a0z]
 ·simp [s40,h1,h2,hm]
  simp [a1l,a0z]
theorem b7n {F:CT} (d:a0l) (keep:List Int) (hd:a2d d=true) (hkl:keep.length<281474976710656) {Q:AEx->St->Prop} {st:St} (b v i b4:Id) (k5:st.s 5=.c (.pt v 0 0)) (k4:st.s 4=.c (.pt b4 0 0))
  (k2:st.s 2=.c (.pt b 0 0)) (kb:st.H b=a71 d) (hib:b≠i)
  (k1:st.s 1=.c (.sl .brw false (a0a keep))) (kv:b7m st.H v i d.safe) (k6:st.s 6=.c (.raw (.int .i64 0)))
  (hf:a0D st.H st.T)
  (hn:∀st',st'.s 5=.c (.pt v 0 0)->st'.s 4=.c (.pt b4 0 0)->st'.H i=.arr 9 1 false (a0a (a1D keep 0 d.safe d.wait))->a3b [i] st.H st.T st'.H st'.T->Q (.exit 0) st') :
  a2K Tryz.prog F (.loop b5h) Q st:=by
 obtain ⟨hd1,hd2,hd3,hd4,hd5⟩:=a9P hd
 obtain ⟨kv,ki,hvi⟩:=kv
 unfold a71 at kb
 refine a1C (fun n st'=>∃(j:Nat) (safe:List (List UInt8)),j<=d.wait.length/\n=d.wait.length-j/\safe.length=d.safe.length/\(∀s∈safe,s.length=32)/\st'.s 5=.c (.pt v 0 0)/\st'.s 4=.c (.pt b4 0 0)/\st'.s 2=.c (.pt b 0 0)/\
  st'.s 1=.c (.sl .brw false (a0a keep))/\st'.H i=.arr 9 1 false (a0a safe)/\st'.s 6=.c (.raw (.int .i64 j))/\a3b [i] st.H st.T st'.H st'.T/\
  a1D keep j safe (d.wait.drop j)=a1D keep 0 d.safe d.wait) d.wait.length ⟨0,d.safe,by simp [k6,k4,k1,ki,k5,k2,a3b.refl hf];exact hd4⟩ ?_
 rintro n st' ⟨j,safe,hj,rfl,hl,hs,k5,k4,k2,k1,ki,k6,he,hc⟩
 have hf':=he.fresh
 have kv:=he.arr kv (by simpa using hvi)
 have kb:=he.arr kb (by simpa using hib)
 obtain ⟨f4,f5,f6⟩:=hf'.arr kv
 obtain ⟨f7,f8,f9⟩:=hf'.arr ki
 obtain ⟨f1,f2,f3⟩:=hf'.arr kb
 have hfu:∀k d,st'.T<=k->st'.H (k,d)=.a0h:=hf'
 have hT:=he.2.2.1
 have hiv:(i=v)=False:=by simp only [eq_iff_iff,iff_false];exact fun e=>hvi e.symm
 by_cases hlt:j<d.wait.length
 ·have e2:IntKind.wrap .i64 ((j:Int)+1)=((j+1:Nat):Int):=by rw [a0d]<;>omega
  obtain ⟨w1,w2,w3⟩:=hd5 d.wait[j] (List.getElem_mem hlt)
  have w4:d.wait[j].at_.toNat<safe.length:=by omega
  have w5:d.wait[j].at_<safe.length:=by omega
  have w6:=hs safe[d.wait[j].at_.toNat] (List.getElem_mem w4)
  rw [List.drop_eq_getElem_cons hlt,a1D] at hc
  have hlen:(b1o safe d.wait[j] (a2r keep j)).length=d.safe.length:=by rw [a6R,hl]
  have b0M:=b9C (k:=a2r keep j) hs w1 w2 w5
  by_cases hk:j<keep.length
  ·have t3:0<=keep[j]->keep[j].tmod 3=keep[j]%3:=fun h=>Int.tmod_eq_emod_of_nonneg h
   have kA:a2r keep j=if keep[j]<0 then 0 else keep[j]%3:=by rw [a2r,b5M hk]
   by_cases g:0<keep[j]
   ·by_cases g1:keep[j].tmod 3=1
    ·simp [b5h,k6,k4,k1,kv,ki,k5,k2,kb,hlt,e2,f4,f5,f7,f8,f1,f2,hfu,hk,w1,w2,w4,w3,hiv,w6,g,g1]
     refine ⟨d.wait.length-(j+1),by omega,j+1,by omega,rfl,_,hlen,b0M,?_,rfl,?_,hc⟩
     ·rw [kA,if_neg (by omega),<-t3 (by omega),g1];simp [b1o,a4V]
     ·repeat' (first|exact he.tick (by first|omega|(simp<;>omega))|(refine a3b.new ?_ (by first|omega|(simp<;>omega)) (by first|omega|(simp<;>omega)))|(refine a3b.set ?_ (by simp) (by first|omega|(simp<;>omega))))
    ·by_cases g2:keep[j].tmod 3=2
     ·simp [b5h,k6,k4,k1,kv,ki,k5,k2,kb,hlt,e2,f4,f5,f7,f8,f1,f2,hfu,hk,w1,w2,w4,w3,hiv,w6,g,g1,g2]
      refine ⟨d.wait.length-(j+1),by omega,j+1,by omega,rfl,_,hlen,b0M,?_,rfl,?_,hc⟩
      ·rw [kA,if_neg (by omega),<-t3 (by omega),g2];simp [b1o,a4V,w4,List.take_of_length_le (Nat.le_of_eq w6)]
      ·repeat' (first|exact he.tick (by first|omega|(simp<;>omega))|(refine a3b.new ?_ (by first|omega|(simp<;>omega)) (by first|omega|(simp<;>omega)))|(refine a3b.set ?_ (by simp) (by first|omega|(simp<;>omega))))
     ·simp [b5h,k6,k4,k1,kv,ki,k5,k2,kb,hlt,e2,f4,f5,f7,f8,f1,f2,hfu,hk,w1,w2,w4,w3,hiv,w6,g,g1,g2]
      refine ⟨d.wait.length-(j+1),by omega,j+1,by omega,rfl,_,hlen,b0M,?_,rfl,?_,hc⟩
      ·rw [kA,if_neg (by omega),<-t3 (by omega)];simp [b1o,g1,g2]
      ·repeat' (first|exact he.tick (by first|omega|(simp<;>omega))|(refine a3b.new ?_ (by first|omega|(simp<;>omega)) (by first|omega|(simp<;>omega)))|(refine a3b.set ?_ (by simp) (by first|omega|(simp<;>omega))))
   ·simp [b5h,k6,k4,k1,kv,ki,k5,k2,kb,hlt,e2,f4,f5,f7,f8,f1,f2,hfu,hk,w1,w2,w4,w3,hiv,w6,g]
    refine ⟨d.wait.length-(j+1),by omega,j+1,by omega,rfl,_,hlen,b0M,?_,rfl,?_,hc⟩
    ·have:(if keep[j]<0 then 0 else keep[j]%3)=0:=by split<;>omega
     rw [kA,this];simp [b1o]
    ·repeat' (first|exact he.tick (by first|omega|(simp<;>omega))|(refine a3b.new ?_ (by first|omega|(simp<;>omega)) (by first|omega|(simp<;>omega)))|(refine a3b.set ?_ (by simp) (by first|omega|(simp<;>omega))))
  ·have kA:a2r keep j=0:=by simp [a2r,List.getD,hk]
   simp [b5h,k6,k4,k1,kv,ki,k5,k2,kb,hlt,e2,f4,f5,f7,f8,f1,f2,hfu,hk,w1,w2,w4,w3,hiv,w6]
   refine ⟨d.wait.length-(j+1),by omega,j+1,by omega,rfl,_,hlen,b0M,?_,rfl,?_,hc⟩
   ·rw [kA];simp [b1o]
   ·repeat' (first|exact he.tick (by first|omega|(simp<;>omega))|(refine a3b.new ?_ (by first|omega|(simp<;>omega)) (by first|omega|(simp<;>omega)))|(refine a3b.set ?_ (by simp) (by first|omega|(simp<;>omega))))
 ·have:j=d.wait.length:=by omega
  subst this
  simp [b5h,k6,k1,kv,ki,k5,k2,kb,hlt]
  rw [List.drop_length,a1D] at hc
  exact hn _ (by simp [k5]) (by simp [k4]) (by rw [<-hc];simpa using ki) (he.tick (by simp))
theorem b7o (d:a0l) (keep:List Int) (hm:a2d d=true) (h3:keep.length<281474976710656) :
  PEv Tryz.prog 93 [Arg.enc d,.c (.sl .brw false (a0a keep))] (.g (a0z ⟨a1D keep 0 d.safe d.wait,[]⟩)):=by
 obtain ⟨hd1,hd2,hd3,hd4,hd5⟩:=a9P hm
 have h1:d.safe.length<1000000:=by omega
 refine a0e mixed a7w Tryz.func93 f4D f4E (by kernel_rfl) (by simp [a0z]) (by simp) ?_
 simp [s93,h1]
 refine b7n d keep hm h3 (0,2) (1,5) (1,12288) (0,4) (by simp) (by simp) (by simp) (by simp [a71]) (by simp) (by simp) ⟨by simp,by simp,by simp⟩ (by simp) (by (simp;repeat' (first|exact a1i.mono (Nat.zero_le _)|(refine a0D.set' ?_ (by simp))))) ?_
 intro st' k5 k4 ki he
 have kv:=he.1 (1,5)
 have k4':=he.1 (0,4)
 simp at kv k4'
 simp [k5,k4,kv,k4',ki,a3K,a0z]
theorem c0L {F:CT} (d:a0l) (hd:a2d d=true) {Q:AEx->St->Prop} {st:St} (b v i b4:Id) (k3:st.s 3=.c (.pt v 0 0)) (k2:st.s 2=.c (.pt b4 0 0))
  (k1:st.s 1=.c (.pt b 0 0)) (kb:st.H b=a71 d) (hib:b≠i) (kv:b7m st.H v i d.safe) (k4:st.s 4=.c (.raw (.int .i64 0)))
  (hf:a0D st.H st.T)
  (hn:∀st',st'.s 3=.c (.pt v 0 0)->st'.s 2=.c (.pt b4 0 0)->st'.H i=.arr 9 1 false (a0a (a4A d.safe d.wait))->a3b [i] st.H st.T st'.H st'.T->Q (.exit 0) st') :
  a2K Tryz.prog F (.loop c5P) Q st:=by
 obtain ⟨hd1,hd2,hd3,hd4,hd5⟩:=a9P hd
 obtain ⟨kv,ki,hvi⟩:=kv
 unfold a71 at kb
 refine a1C (fun n st'=>∃(j:Nat) (safe:List (List UInt8)),j<=d.wait.length/\n=d.wait.length-j/\safe.length=d.safe.length/\st'.s 3=.c (.pt v 0 0)/\st'.s 2=.c (.pt b4 0 0)/\st'.s 1=.c (.pt b 0 0)/\
  st'.H i=.arr 9 1 false (a0a safe)/\st'.s 4=.c (.raw (.int .i64 j))/\a3b [i] st.H st.T st'.H st'.T/\
  a4A safe (d.wait.drop j)=a4A d.safe d.wait) d.wait.length ⟨0,d.safe,by simp [k4,k3,k2,k1,ki,a3b.refl hf]⟩ ?_
 rintro n st' ⟨j,safe,hj,rfl,hl,k3,k2,k1,ki,k4,he,hc⟩
 have hf':=he.fresh
 have kv:=he.arr kv (by simpa using hvi)
 have kb:=he.arr kb (by simpa using hib)
 obtain ⟨f7,f8,f9⟩:=hf'.arr ki
 by_cases hlt:j<d.wait.length
 ·have e2:IntKind.wrap .i64 ((j:Int)+1)=((j+1:Nat):Int):=by rw [a0d]<;>omega
  obtain ⟨w1,w2,w3⟩:=hd5 d.wait[j] (List.getElem_mem hlt)
  have w4:d.wait[j].at_.toNat<safe.length:=by omega
  rw [List.drop_eq_getElem_cons hlt,a4A] at hc
  simp [c5P,k4,k3,k2,k1,kv,ki,kb,hlt,e2,w2,w3,w4]
  refine ⟨d.wait.length-(j+1),by omega,j+1,by omega,rfl,_,by rw [List.length_set,hl],a4V.symm,rfl,?_,hc⟩
  repeat' (first|exact he.tick (by first|omega|(simp<;>omega))|(refine a3b.new ?_ (by first|omega|(simp<;>omega)) (by first|omega|(simp<;>omega)))|(refine a3b.set ?_ (by simp) (by first|omega|(simp<;>omega))))
 ·have:j=d.wait.length:=by omega
  subst this
  simp [c5P,k4,k3,k2,k1,kv,ki,kb,hlt]
  rw [List.drop_length,a4A] at hc
  exact hn _ (by simp [k3]) (by simp [k2]) (by rw [<-hc];simpa using ki) (he.tick (by simp))
theorem a7x:∀(l:List a4o) (safe:List (List UInt8)),(a4A safe l).length=safe.length
 |[],_=>rfl
 |w::r,safe=>by rw [a4A,a7x,List.length_set]
theorem c0M (d:a0l) (hm:a2d d=true):PEv Tryz.prog 71 [Arg.enc d] (.g (a0z ⟨a4A d.safe d.wait,[]⟩)):=by
 obtain ⟨hd1,hd2,hd3,hd4,hd5⟩:=a9P hm
 have h1:d.safe.length<1000000:=by omega
 refine a0e mixed a7w Tryz.func71 f4h f4i (by kernel_rfl) (by simp [a0z]) (by simp) ?_
 simp [s71,h1]
 refine c0L d hm (0,1) (1,3) (1,8192) (0,2) (by simp) (by simp) (by simp) (by simp [a71]) (by simp) ⟨by simp,by simp,by simp⟩ (by simp) (by (simp;repeat' (first|exact a1i.mono (Nat.zero_le _)|(refine a0D.set' ?_ (by simp))))) ?_
 intro st' k3 k2 ki he
 have kv:=he.1 (1,3)
 have k4':=he.1 (0,2)
 simp at kv k4'
 simp [k3,k2,kv,k4',ki,a7x,a0z]
open Go Go.Proofs
theorem a73 {n:Int} (h0:0<=n) (h1:n<4294967296):(((n%2^IntKind.u64.bits).toNat &&&4294967295%2^IntKind.u64.bits:Nat):Int)=n:=by
 obtain ⟨k,rfl⟩:=Int.eq_ofNat_of_zero_le h0
 have e:((k:Int)%2^IntKind.u64.bits).toNat=k:=by
  show ((k:Int)%18446744073709551616).toNat=k
  omega
 have e2:(4294967295%2^IntKind.u64.bits:Nat)=2^32-1:=rfl
 rw [e,e2,Nat.and_two_pow_sub_one_eq_mod]
 omega
theorem f0L:(2:Int)^min 32 IntKind.u64.bits=4294967296:=rfl
theorem c6F {F:CT} (hF:a1k Tryz.prog F) (a b:Int) (ha0:0<=a) (ha:a<4294967296) (hb0:0<=b) (hb:b<4294967296) (hm:a*b<4294967296) :
  PEv Tryz.prog 178 [.c (.raw (.int .u64 a)),.c (.raw (.int .u64 b))] (.t [(false,[.raw (.int .u64 0)]),(false,[.raw (.int .u64 (a*b))])]):=by
 refine a0e mixed hF Tryz.func178 e42 e43 (by kernel_rfl) (by simp) (by simp) ?_
 have hm0:0<=a*b:=Int.mul_nonneg ha0 hb0
 have e1:a.fdiv 4294967296=0:=by rw [Int.fdiv_eq_ediv_of_nonneg _ (by omega)];exact Int.ediv_eq_zero_of_lt ha0 (by omega)
 have e2:b.fdiv 4294967296=0:=by rw [Int.fdiv_eq_ediv_of_nonneg _ (by omega)];exact Int.ediv_eq_zero_of_lt hb0 (by omega)
 have e3:(a*b).fdiv 4294967296=0:=by rw [Int.fdiv_eq_ediv_of_nonneg _ (by omega)];exact Int.ediv_eq_zero_of_lt hm0 (by omega)
 have m1:=a73 ha0 (by omega)
 have m2:=a73 hb0 (by omega)
 have w1:IntKind.wrap .u64 a=a:=a4x ha0 (by omega)
 have w2:IntKind.wrap .u64 b=b:=a4x hb0 (by omega)
 have w3:IntKind.wrap .u64 (a*b)=a*b:=a4x hm0 (by omega)
 have w0:IntKind.wrap .u64 0=0:=a4x (by omega) (by omega)
 have m0:=a73 (n:=0) (by omega) (by omega)
 simp [e41,d4b,f0L,m1,m2,m0,w1,w2,w3,w0,e1,e2,e3]
theorem c70 (a b:Int) (ha0:0<=a) (ha:a<4294967296) (hb0:0<=b) (hb:b<4294967296) (hm:a*b<4294967296) :
  PEv Tryz.prog 137 [.c (.raw (.int .u64 a)),.c (.raw (.int .u64 b))] (.t [(false,[.raw (.int .u64 0)]),(false,[.raw (.int .u64 (a*b))])]):=by
 refine a0e mixed a7w Tryz.func137 e4Q e4R (by kernel_rfl) (by simp) (by simp) ?_
 simp [e4P]
 refine a0T (c6F a7w a b ha0 ha hb0 hb hm) (by simp) (by simp) (by simp) ?_
 simp
section
variable {α:Type} [Enc α]
end
theorem c9Y {F:CT} (a:Int) (n:Nat) {Q:AEx->St->Prop} {st:St} (id:Id) (hn1:1<=n) (hn2:n<1000000) (k7:st.s 7=.c (.so id 0 n)) (k8:st.s 8=.c (.raw (.int .i64 1)))
  (kid:st.H id=.arr 3 1 false (a0a [a]++List.replicate (n-1) [.raw (.int .i64 0)])) (hn:∀st',st'.s 7=.c (.so id 0 n)->st'.H id=.arr 3 1 false (a0a (List.replicate n a))->Q (.exit 0) st') :
  a2K Tryz.prog F (.loop b5j) Q st:=by
 refine a1C (fun m st=>∃j:Nat,1<=j/\j<=n/\m=n-j/\st.s 7=.c (.so id 0 n)/\st.s 8=.c (.raw (.int .i64 j))/\st.H id=.arr 3 1 false (a0a (List.replicate j a)++List.replicate (n-j) [.raw (.int .i64 0)])) (n-1)
  ⟨1,by omega,by omega,rfl,k7,by simpa using k8,by simpa using kid⟩ ?_
 rintro m st ⟨j,h1,h2,rfl,k7,k8,kid⟩
 by_cases hlt:j<n
 ·have e1:IntKind.wrap .i64 ((j:Int)+((min (n-j) j:Nat):Int))=((j+min (n-j) j:Nat):Int):=by rw [a0d]<;>omega
  simp [b5j,k7,k8,kid,hlt]
  refine ⟨h2,n-(j+min (n-j) j),by omega,j+min (n-j) j,by omega,by omega,rfl,e1,?_⟩
  have t1:List.take (n-j) (a0a (List.replicate j a))=a0a (List.replicate (min (n-j) j) a):=by rw [b01,List.take_replicate]
  have t2:List.drop (j+min (n-j) j) (a0a (List.replicate j a)++List.replicate (n-j) [AC.raw (Value.int IntKind.i64 0)])=List.replicate (n-(j+min (n-j) j)) [AC.raw (Value.int IntKind.i64 0)]:=by
   rw [List.drop_append,List.drop_eq_nil_of_le (by simp),List.nil_append,List.drop_replicate]
   congr 1;simp;omega
  rw [t1,t2,<-List.append_assoc,<-a1g,List.replicate_append_replicate]
 ·have:j=n:=by omega
  subst this
  simp [b5j,k7,k8,kid,hlt]
  exact hn _ (by simp [k7]) (by simpa using kid)
theorem c9Z (a:Int) (n:Int) (h0:0<=n) (h1:n<1000000) :
  PEv Tryz.prog 111 [.c (.sl .brw false (a0a [a])),.c (.raw (.int .i64 n))] (.c (.nw 3 1 (a0a (List.replicate n.toNat a)))):=by
 refine a0e mixed a7w Tryz.func111 e4t e4u (by kernel_rfl) (by simp) (by simp) ?_
 have w1:IntKind.wrap .u64 1=1:=a4x (by omega) (by omega)
 have w2:IntKind.wrap .u64 n=n:=a4x h0 (by omega)
 have w3:IntKind.wrap .i64 n=n:=a0d (by omega) (by omega)
 have n0:¬n<0:=by omega
 simp [e4s,n0,w1,w2]
 refine a0T (c70 1 n (by omega) (by omega) h0 (by omega) (by omega)) (by simp) (by simp) (by simp) ?_
 simp [n0,w1,w2,w3,show n<=9223372036854775807 by omega,show ¬9223372036854775807<n by omega,h0]
 by_cases hz:n=0
 ·subst hz
  simp
  refine a1C (fun m st=>st.s 7=.c (.so (4,30) 0 0)/\st.s 8=.c (.raw (.int .i64 0))/\st.H (4,30)=.arr 3 1 false []) 0 (by simp) ?_
  rintro m st ⟨k7,k8,kH⟩
  simp [b5j,k7,k8,kH]
 ·obtain ⟨k,rfl⟩:∃k:Nat,n=(k:Int):=⟨n.toNat,by omega⟩
  have hk:1<=k:=by omega
  have e1:min k 1=1:=by omega
  refine ⟨by omega,c9Y a k (4,30) hk (by omega) (by simp) (by simp [e1]) ?_ ?_⟩
  ·simp [e1]
   rw [List.take_of_length_le (by simp;omega)]
  ·intro st' k7 kH
   simp [k7,kH]
theorem c90 {F:CT} (a:List UInt8) (n:Nat) {Q:AEx->St->Prop} {st:St} (id:Id) (hn1:1<=n) (hn2:n<1000000) (k7:st.s 7=.c (.so id 0 n)) (k8:st.s 8=.c (.raw (.int .i64 1)))
  (kid:st.H id=.arr 9 1 false (a0a [a]++List.replicate (n-1) [.str []])) (hn:∀st',st'.s 7=.c (.so id 0 n)->st'.H id=.arr 9 1 false (a0a (List.replicate n a))->Q (.exit 0) st') :
  a2K Tryz.prog F (.loop c2i) Q st:=by
 refine a1C (fun m st=>∃j:Nat,1<=j/\j<=n/\m=n-j/\st.s 7=.c (.so id 0 n)/\st.s 8=.c (.raw (.int .i64 j))/\st.H id=.arr 9 1 false (a0a (List.replicate j a)++List.replicate (n-j) [.str []])) (n-1)
  ⟨1,by omega,by omega,rfl,k7,by simpa using k8,by simpa using kid⟩ ?_
 rintro m st ⟨j,h1,h2,rfl,k7,k8,kid⟩
 by_cases hlt:j<n
 ·have e1:IntKind.wrap .i64 ((j:Int)+((min (n-j) j:Nat):Int))=((j+min (n-j) j:Nat):Int):=by rw [a0d]<;>omega
  simp [c2i,k7,k8,kid,hlt]
  refine ⟨h2,n-(j+min (n-j) j),by omega,j+min (n-j) j,by omega,by omega,rfl,e1,?_⟩
  have t1:List.take (n-j) (a0a (List.replicate j a))=a0a (List.replicate (min (n-j) j) a):=by rw [b01,List.take_replicate]
  have t2:List.drop (j+min (n-j) j) (a0a (List.replicate j a)++List.replicate (n-j) [AC.str []])=List.replicate (n-(j+min (n-j) j)) [AC.str []]:=by
   rw [List.drop_append,List.drop_eq_nil_of_le (by simp),List.nil_append,List.drop_replicate]
   congr 1;simp;omega
  rw [t1,t2,<-List.append_assoc,<-a1g,List.replicate_append_replicate]
 ·have:j=n:=by omega
  subst this
  simp [c2i,k7,k8,kid,hlt]
  exact hn _ (by simp [k7]) (by simpa using kid)
theorem c91 (a:List UInt8) (n:Int) (h0:0<=n) (h1:n<1000000) :
  PEv Tryz.prog 81 [.c (.sl .brw false (a0a [a])),.c (.raw (.int .i64 n))] (.c (.nw 9 1 (a0a (List.replicate n.toNat a)))):=by
 refine a0e mixed a7w Tryz.func81 f4p f4q (by kernel_rfl) (by simp) (by simp) ?_
 have w1:IntKind.wrap .u64 1=1:=a4x (by omega) (by omega)
 have w2:IntKind.wrap .u64 n=n:=a4x h0 (by omega)
 have w3:IntKind.wrap .i64 n=n:=a0d (by omega) (by omega)
 have n0:¬n<0:=by omega
 simp [s81,n0,w1,w2]
 refine a0T (c70 1 n (by omega) (by omega) h0 (by omega) (by omega)) (by simp) (by simp) (by simp) ?_
 simp [n0,w1,w2,w3,show n<=9223372036854775807 by omega,show ¬9223372036854775807<n by omega,h0]
 by_cases hz:n=0
 ·subst hz
  simp
  refine a1C (fun m st=>st.s 7=.c (.so (4,30) 0 0)/\st.s 8=.c (.raw (.int .i64 0))/\st.H (4,30)=.arr 9 1 false []) 0 (by simp) ?_
  rintro m st ⟨k7,k8,kH⟩
  simp [c2i,k7,k8,kH]
 ·obtain ⟨k,rfl⟩:∃k:Nat,n=(k:Int):=⟨n.toNat,by omega⟩
  have hk:1<=k:=by omega
  have e1:min k 1=1:=by omega
  refine ⟨by omega,c90 a k (4,30) hk (by omega) (by simp) (by simp [e1]) ?_ ?_⟩
  ·simp [e1]
   rw [List.take_of_length_le (by simp;omega)]
  ·intro st' k7 kH
   simp [k7,kH]
open Go Go.Proofs
theorem b5O (s:List UInt8) (n:Nat) (h:s.length*n<=140737488355328) (hn:n<=1000000):PEv Tryz.prog 138 [.c (.str s),.c (.raw (.int .i64 n))] (.c (.str (Lib.repeatL s n))):=by
 refine b7a (by kernel_rfl) (by simp) fun w hI F vs hs hr=>?_
 have h0:=a1U (a0C (hr 0 _ rfl))
 have h1:=a0J (a0C (hr 1 _ rfl))
 rw [vs2 hs h0 h1]
 exact Any.strings_Repeat lays105 b2s ⟨s.toArray⟩ n w (by omega) (by simpa [ByteArray.size] using h)
theorem a74:PEv Tryz.prog 82 [] (.c (.str blank)):=by
 refine a0e mixed a7w Tryz.func82 f4r f4s (by kernel_rfl) (by simp) (by simp) ?_
 simp [s82]
 refine a0T (b5O [0] 32 (by simp) (by omega)) (by simp) (by simp) (by simp) ?_
 simp [blank]
 decide
end Go.AE
