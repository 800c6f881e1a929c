/- The abstract machine: calls that turn objects: what they made besides is forgotten. -/
import Derived.Test.YtjafmhgkfkfimaaGreatDoorEx2
import Derived.Test.YtjafmhgkfkfimaaGreatDoorProg
import Derived.KernelRfl
import Derived.ChangeArms
import Derived.ChangeSlices
import Derived.SizedLaws
namespace Go.AE
open Go Go.Proofs
@[simp] theorem ty0:tyI Tryz.prog 0={ok:=false,sz:=1,ag:=false,bytes:=0,zero:=[Value.tuple {toList:=[]}],offs:=[],elem:=0,kind:=none,form:=0,eqs:=[],bld:=false}:=by kernel_rfl
@[simp] theorem ty1:tyI Tryz.prog 1={ok:=true,sz:=1,ag:=false,bytes:=8,zero:=[Value.nilFunc],offs:=[],elem:=0,kind:=none,form:=0,eqs:=[],bld:=false}:=by kernel_rfl
@[simp] theorem ty2:tyI Tryz.prog 2={ok:=true,sz:=1,ag:=false,bytes:=8,zero:=[Value.int IntKind.i64 (0)],offs:=[],elem:=0,kind:=some IntKind.i64,form:=3,eqs:=[],bld:=false}:=by kernel_rfl
@[simp] theorem ty3:tyI Tryz.prog 3={ok:=true,sz:=1,ag:=false,bytes:=8,zero:=[Value.int IntKind.i64 (0)],offs:=[],elem:=0,kind:=some IntKind.i64,form:=3,eqs:=[],bld:=false}:=by kernel_rfl
@[simp] theorem ty4:tyI Tryz.prog 4={ok:=true,sz:=1,ag:=false,bytes:=1,zero:=[Value.bool false],offs:=[],elem:=0,kind:=none,form:=4,eqs:=[],bld:=false}:=by kernel_rfl
@[simp] theorem ty5:tyI Tryz.prog 5={ok:=true,sz:=1,ag:=false,bytes:=1,zero:=[Value.int IntKind.u8 (0)],offs:=[],elem:=0,kind:=some IntKind.u8,form:=3,eqs:=[],bld:=false}:=by kernel_rfl
@[simp] theorem ty6:tyI Tryz.prog 6={ok:=true,sz:=1,ag:=false,bytes:=1,zero:=[Value.int IntKind.u8 (0)],offs:=[],elem:=0,kind:=some IntKind.u8,form:=3,eqs:=[],bld:=false}:=by kernel_rfl
@[simp] theorem ty7:tyI Tryz.prog 7={ok:=true,sz:=4,ag:=true,bytes:=24,zero:=[Value.int IntKind.i64 (0),Value.int IntKind.i64 (0),Value.bool false,Value.int IntKind.u8 (0)],offs:=[(0,1,false),(1,1,false),(2,1,false),(3,1,false)],elem:=0,kind:=none,form:=5,eqs:=[3,3,4,3],bld:=true}:=by kernel_rfl
@[simp] theorem ty8:tyI Tryz.prog 8={ok:=true,sz:=4,ag:=true,bytes:=24,zero:=[Value.int IntKind.i64 (0),Value.int IntKind.i64 (0),Value.bool false,Value.int IntKind.u8 (0)],offs:=[(0,1,false),(1,1,false),(2,1,false),(3,1,false)],elem:=0,kind:=none,form:=5,eqs:=[3,3,4,3],bld:=true}:=by kernel_rfl
@[simp] theorem ty9:tyI Tryz.prog 9={ok:=true,sz:=1,ag:=false,bytes:=16,zero:=[Value.string ⟨#[]⟩],offs:=[],elem:=0,kind:=none,form:=1,eqs:=[],bld:=false}:=by kernel_rfl
@[simp] theorem ty10:tyI Tryz.prog 10={ok:=true,sz:=1,ag:=false,bytes:=16,zero:=[Value.string ⟨#[]⟩],offs:=[],elem:=0,kind:=none,form:=1,eqs:=[],bld:=false}:=by kernel_rfl
@[simp] theorem ty11:tyI Tryz.prog 11={ok:=true,sz:=1,ag:=false,bytes:=16,zero:=[Value.string ⟨#[]⟩],offs:=[],elem:=0,kind:=none,form:=1,eqs:=[],bld:=false}:=by kernel_rfl
@[simp] theorem ty12:tyI Tryz.prog 12={ok:=true,sz:=1,ag:=false,bytes:=8,zero:=[Value.int IntKind.u64 (0)],offs:=[],elem:=0,kind:=some IntKind.u64,form:=3,eqs:=[],bld:=false}:=by kernel_rfl
@[simp] theorem ty13:tyI Tryz.prog 13={ok:=true,sz:=2,ag:=true,bytes:=24,zero:=[Value.string ⟨#[]⟩,Value.int IntKind.u64 (0)],offs:=[(0,1,false),(1,1,false)],elem:=0,kind:=none,form:=5,eqs:=[],bld:=true}:=by kernel_rfl
@[simp] theorem ty14:tyI Tryz.prog 14={ok:=true,sz:=2,ag:=true,bytes:=24,zero:=[Value.string ⟨#[]⟩,Value.int IntKind.u64 (0)],offs:=[(0,1,false),(1,1,false)],elem:=0,kind:=none,form:=5,eqs:=[],bld:=true}:=by kernel_rfl
@[simp] theorem ty15:tyI Tryz.prog 15={ok:=true,sz:=1,ag:=false,bytes:=8,zero:=[Value.pointer none],offs:=[],elem:=0,kind:=none,form:=0,eqs:=[],bld:=false}:=by kernel_rfl
@[simp] theorem ty16:tyI Tryz.prog 16={ok:=true,sz:=1,ag:=false,bytes:=8,zero:=[Value.pointer none],offs:=[],elem:=0,kind:=none,form:=0,eqs:=[],bld:=false}:=by kernel_rfl
@[simp] theorem ty17:tyI Tryz.prog 17={ok:=true,sz:=1,ag:=false,bytes:=8,zero:=[Value.pointer none],offs:=[],elem:=0,kind:=none,form:=0,eqs:=[],bld:=false}:=by kernel_rfl
@[simp] theorem ty18:tyI Tryz.prog 18={ok:=true,sz:=1,ag:=true,bytes:=8,zero:=[Value.pointer none],offs:=[(0,1,false)],elem:=0,kind:=none,form:=5,eqs:=[],bld:=true}:=by kernel_rfl
@[simp] theorem ty19:tyI Tryz.prog 19={ok:=true,sz:=1,ag:=true,bytes:=8,zero:=[Value.pointer none],offs:=[(0,1,false)],elem:=0,kind:=none,form:=5,eqs:=[],bld:=true}:=by kernel_rfl
@[simp] theorem ty20:tyI Tryz.prog 20={ok:=true,sz:=1,ag:=false,bytes:=16,zero:=[Value.nilIface],offs:=[],elem:=0,kind:=none,form:=0,eqs:=[],bld:=false}:=by kernel_rfl
@[simp] theorem ty21:tyI Tryz.prog 21={ok:=true,sz:=1,ag:=false,bytes:=4,zero:=[Value.int IntKind.i32 (0)],offs:=[],elem:=0,kind:=some IntKind.i32,form:=3,eqs:=[],bld:=false}:=by kernel_rfl
@[simp] theorem ty22:tyI Tryz.prog 22={ok:=true,sz:=1,ag:=false,bytes:=24,zero:=[Value.slice none 0 0],offs:=[],elem:=46,kind:=none,form:=2,eqs:=[],bld:=false}:=by kernel_rfl
@[simp] theorem ty23:tyI Tryz.prog 23={ok:=true,sz:=1,ag:=false,bytes:=24,zero:=[Value.slice none 0 0],offs:=[],elem:=44,kind:=none,form:=2,eqs:=[],bld:=false}:=by kernel_rfl
@[simp] theorem ty24:tyI Tryz.prog 24={ok:=true,sz:=1,ag:=false,bytes:=24,zero:=[Value.slice none 0 0],offs:=[],elem:=3,kind:=none,form:=2,eqs:=[],bld:=false}:=by kernel_rfl
@[simp] theorem ty25:tyI Tryz.prog 25={ok:=true,sz:=3,ag:=true,bytes:=72,zero:=[Value.slice none 0 0,Value.slice none 0 0,Value.slice none 0 0],offs:=[(0,1,false),(1,1,false),(2,1,false)],elem:=0,kind:=none,form:=5,eqs:=[],bld:=true}:=by kernel_rfl
@[simp] theorem ty26:tyI Tryz.prog 26={ok:=true,sz:=3,ag:=true,bytes:=72,zero:=[Value.slice none 0 0,Value.slice none 0 0,Value.slice none 0 0],offs:=[(0,1,false),(1,1,false),(2,1,false)],elem:=0,kind:=none,form:=5,eqs:=[],bld:=true}:=by kernel_rfl
@[simp] theorem ty27:tyI Tryz.prog 27={ok:=true,sz:=1,ag:=false,bytes:=24,zero:=[Value.slice none 0 0],offs:=[],elem:=9,kind:=none,form:=2,eqs:=[],bld:=false}:=by kernel_rfl
@[simp] theorem ty28:tyI Tryz.prog 28={ok:=true,sz:=1,ag:=false,bytes:=24,zero:=[Value.slice none 0 0],offs:=[],elem:=88,kind:=none,form:=2,eqs:=[],bld:=false}:=by kernel_rfl
@[simp] theorem ty29:tyI Tryz.prog 29={ok:=true,sz:=2,ag:=true,bytes:=48,zero:=[Value.slice none 0 0,Value.slice none 0 0],offs:=[(0,1,false),(1,1,false)],elem:=0,kind:=none,form:=5,eqs:=[],bld:=true}:=by kernel_rfl
@[simp] theorem ty30:tyI Tryz.prog 30={ok:=true,sz:=2,ag:=true,bytes:=48,zero:=[Value.slice none 0 0,Value.slice none 0 0],offs:=[(0,1,false),(1,1,false)],elem:=0,kind:=none,form:=5,eqs:=[],bld:=true}:=by kernel_rfl
@[simp] theorem ty31:tyI Tryz.prog 31={ok:=true,sz:=1,ag:=false,bytes:=24,zero:=[Value.slice none 0 0],offs:=[],elem:=113,kind:=none,form:=2,eqs:=[],bld:=false}:=by kernel_rfl
@[simp] theorem ty32:tyI Tryz.prog 32={ok:=true,sz:=4,ag:=true,bytes:=80,zero:=[Value.slice none 0 0,Value.slice none 0 0,Value.int IntKind.i64 (0),Value.slice none 0 0],offs:=[(0,2,true),(2,1,false),(3,1,false)],elem:=0,kind:=none,form:=5,eqs:=[],bld:=true}:=by kernel_rfl
@[simp] theorem ty33:tyI Tryz.prog 33={ok:=true,sz:=4,ag:=true,bytes:=80,zero:=[Value.slice none 0 0,Value.slice none 0 0,Value.int IntKind.i64 (0),Value.slice none 0 0],offs:=[(0,2,true),(2,1,false),(3,1,false)],elem:=0,kind:=none,form:=5,eqs:=[],bld:=true}:=by kernel_rfl
@[simp] theorem ty34:tyI Tryz.prog 34={ok:=true,sz:=1,ag:=false,bytes:=24,zero:=[Value.slice none 0 0],offs:=[],elem:=48,kind:=none,form:=2,eqs:=[],bld:=false}:=by kernel_rfl
@[simp] theorem ty35:tyI Tryz.prog 35={ok:=true,sz:=9,ag:=true,bytes:=200,zero:=[Value.slice none 0 0,Value.slice none 0 0,Value.slice none 0 0,Value.slice none 0 0,Value.slice none 0 0,Value.int IntKind.i64 (0),Value.slice none 0 0,Value.slice none 0 0,Value.slice none 0 0],offs:=[(0,3,true),(3,4,true),(7,1,false),(8,1,false)],elem:=0,kind:=none,form:=5,eqs:=[],bld:=true}:=by kernel_rfl
@[simp] theorem ty36:tyI Tryz.prog 36={ok:=true,sz:=9,ag:=true,bytes:=200,zero:=[Value.slice none 0 0,Value.slice none 0 0,Value.slice none 0 0,Value.slice none 0 0,Value.slice none 0 0,Value.int IntKind.i64 (0),Value.slice none 0 0,Value.slice none 0 0,Value.slice none 0 0],offs:=[(0,3,true),(3,4,true),(7,1,false),(8,1,false)],elem:=0,kind:=none,form:=5,eqs:=[],bld:=true}:=by kernel_rfl
@[simp] theorem ty37:tyI Tryz.prog 37={ok:=true,sz:=1,ag:=false,bytes:=8,zero:=[Value.nilFunc],offs:=[],elem:=0,kind:=none,form:=0,eqs:=[],bld:=false}:=by kernel_rfl
@[simp] theorem ty38:tyI Tryz.prog 38={ok:=true,sz:=1,ag:=false,bytes:=8,zero:=[Value.nilFunc],offs:=[],elem:=0,kind:=none,form:=0,eqs:=[],bld:=false}:=by kernel_rfl
@[simp] theorem ty39:tyI Tryz.prog 39={ok:=true,sz:=1,ag:=false,bytes:=8,zero:=[Value.nilFunc],offs:=[],elem:=0,kind:=none,form:=0,eqs:=[],bld:=false}:=by kernel_rfl
@[simp] theorem ty40:tyI Tryz.prog 40={ok:=true,sz:=1,ag:=false,bytes:=8,zero:=[Value.int IntKind.i64 (0)],offs:=[],elem:=0,kind:=some IntKind.i64,form:=3,eqs:=[],bld:=false}:=by kernel_rfl
@[simp] theorem ty41:tyI Tryz.prog 41={ok:=false,sz:=1,ag:=false,bytes:=0,zero:=[Value.tuple {toList:=[Value.agg {toList:=[Value.slice none 0 0,Value.slice none 0 0]},Value.int IntKind.i64 (0),Value.int IntKind.i64 (0)]}],offs:=[],elem:=0,kind:=none,form:=0,eqs:=[],bld:=false}:=by kernel_rfl
@[simp] theorem ty42:tyI Tryz.prog 42={ok:=true,sz:=1,ag:=false,bytes:=8,zero:=[Value.nilFunc],offs:=[],elem:=0,kind:=none,form:=0,eqs:=[],bld:=false}:=by kernel_rfl
@[simp] theorem ty43:tyI Tryz.prog 43={ok:=true,sz:=3,ag:=true,bytes:=24,zero:=[Value.int IntKind.i64 (0),Value.int IntKind.i64 (0),Value.int IntKind.i64 (0)],offs:=[(0,1,false),(1,1,false),(2,1,false)],elem:=0,kind:=none,form:=5,eqs:=[3,3,3],bld:=true}:=by kernel_rfl
@[simp] theorem ty44:tyI Tryz.prog 44={ok:=true,sz:=3,ag:=true,bytes:=24,zero:=[Value.int IntKind.i64 (0),Value.int IntKind.i64 (0),Value.int IntKind.i64 (0)],offs:=[(0,1,false),(1,1,false),(2,1,false)],elem:=0,kind:=none,form:=5,eqs:=[3,3,3],bld:=true}:=by kernel_rfl
@[simp] theorem ty45:tyI Tryz.prog 45={ok:=true,sz:=11,ag:=true,bytes:=112,zero:=[Value.int IntKind.i64 (0),Value.int IntKind.i64 (0),Value.int IntKind.i64 (0),Value.int IntKind.i64 (0),Value.int IntKind.i64 (0),Value.int IntKind.i64 (0),Value.string ⟨#[]⟩,Value.slice none 0 0,Value.int IntKind.i64 (0),Value.int IntKind.i64 (0),Value.int IntKind.i64 (0)],offs:=[(0,1,false),(1,1,false),(2,1,false),(3,3,true),(6,1,false),(7,1,false),(8,1,false),(9,1,false),(10,1,false)],elem:=0,kind:=none,form:=5,eqs:=[],bld:=true}:=by kernel_rfl
@[simp] theorem ty46:tyI Tryz.prog 46={ok:=true,sz:=11,ag:=true,bytes:=112,zero:=[Value.int IntKind.i64 (0),Value.int IntKind.i64 (0),Value.int IntKind.i64 (0),Value.int IntKind.i64 (0),Value.int IntKind.i64 (0),Value.int IntKind.i64 (0),Value.string ⟨#[]⟩,Value.slice none 0 0,Value.int IntKind.i64 (0),Value.int IntKind.i64 (0),Value.int IntKind.i64 (0)],offs:=[(0,1,false),(1,1,false),(2,1,false),(3,3,true),(6,1,false),(7,1,false),(8,1,false),(9,1,false),(10,1,false)],elem:=0,kind:=none,form:=5,eqs:=[],bld:=true}:=by kernel_rfl
@[simp] theorem ty47:tyI Tryz.prog 47={ok:=true,sz:=13,ag:=true,bytes:=128,zero:=[Value.bool false,Value.int IntKind.i64 (0),Value.int IntKind.i64 (0),Value.int IntKind.i64 (0),Value.int IntKind.i64 (0),Value.int IntKind.i64 (0),Value.int IntKind.i64 (0),Value.int IntKind.i64 (0),Value.string ⟨#[]⟩,Value.slice none 0 0,Value.int IntKind.i64 (0),Value.int IntKind.i64 (0),Value.int IntKind.i64 (0)],offs:=[(0,1,false),(1,1,false),(2,11,true)],elem:=0,kind:=none,form:=5,eqs:=[],bld:=true}:=by kernel_rfl
@[simp] theorem ty48:tyI Tryz.prog 48={ok:=true,sz:=13,ag:=true,bytes:=128,zero:=[Value.bool false,Value.int IntKind.i64 (0),Value.int IntKind.i64 (0),Value.int IntKind.i64 (0),Value.int IntKind.i64 (0),Value.int IntKind.i64 (0),Value.int IntKind.i64 (0),Value.int IntKind.i64 (0),Value.string ⟨#[]⟩,Value.slice none 0 0,Value.int IntKind.i64 (0),Value.int IntKind.i64 (0),Value.int IntKind.i64 (0)],offs:=[(0,1,false),(1,1,false),(2,11,true)],elem:=0,kind:=none,form:=5,eqs:=[],bld:=true}:=by kernel_rfl
@[simp] theorem ty49:tyI Tryz.prog 49={ok:=true,sz:=1,ag:=false,bytes:=8,zero:=[Value.nilFunc],offs:=[],elem:=0,kind:=none,form:=0,eqs:=[],bld:=false}:=by kernel_rfl
@[simp] theorem ty50:tyI Tryz.prog 50={ok:=false,sz:=1,ag:=false,bytes:=0,zero:=[Value.tuple {toList:=[Value.agg {toList:=[Value.slice none 0 0,Value.slice none 0 0]},Value.int IntKind.i64 (0)]}],offs:=[],elem:=0,kind:=none,form:=0,eqs:=[],bld:=false}:=by kernel_rfl
@[simp] theorem ty51:tyI Tryz.prog 51={ok:=true,sz:=1,ag:=false,bytes:=8,zero:=[Value.nilFunc],offs:=[],elem:=0,kind:=none,form:=0,eqs:=[],bld:=false}:=by kernel_rfl
@[simp] theorem ty52:tyI Tryz.prog 52={ok:=true,sz:=1,ag:=false,bytes:=8,zero:=[Value.nilFunc],offs:=[],elem:=0,kind:=none,form:=0,eqs:=[],bld:=false}:=by kernel_rfl
@[simp] theorem ty53:tyI Tryz.prog 53={ok:=false,sz:=1,ag:=false,bytes:=0,zero:=[Value.tuple {toList:=[Value.slice none 0 0,Value.int IntKind.i64 (0),Value.int IntKind.i64 (0)]}],offs:=[],elem:=0,kind:=none,form:=0,eqs:=[],bld:=false}:=by kernel_rfl
@[simp] theorem ty54:tyI Tryz.prog 54={ok:=true,sz:=1,ag:=false,bytes:=8,zero:=[Value.nilFunc],offs:=[],elem:=0,kind:=none,form:=0,eqs:=[],bld:=false}:=by kernel_rfl
@[simp] theorem ty55:tyI Tryz.prog 55={ok:=true,sz:=1,ag:=false,bytes:=8,zero:=[Value.nilFunc],offs:=[],elem:=0,kind:=none,form:=0,eqs:=[],bld:=false}:=by kernel_rfl
@[simp] theorem ty56:tyI Tryz.prog 56={ok:=true,sz:=1,ag:=false,bytes:=8,zero:=[Value.nilFunc],offs:=[],elem:=0,kind:=none,form:=0,eqs:=[],bld:=false}:=by kernel_rfl
@[simp] theorem ty57:tyI Tryz.prog 57={ok:=true,sz:=1,ag:=false,bytes:=8,zero:=[Value.nilFunc],offs:=[],elem:=0,kind:=none,form:=0,eqs:=[],bld:=false}:=by kernel_rfl
@[simp] theorem ty58:tyI Tryz.prog 58={ok:=true,sz:=1,ag:=false,bytes:=8,zero:=[Value.nilFunc],offs:=[],elem:=0,kind:=none,form:=0,eqs:=[],bld:=false}:=by kernel_rfl
@[simp] theorem ty59:tyI Tryz.prog 59={ok:=true,sz:=1,ag:=false,bytes:=8,zero:=[Value.nilFunc],offs:=[],elem:=0,kind:=none,form:=0,eqs:=[],bld:=false}:=by kernel_rfl
@[simp] theorem ty60:tyI Tryz.prog 60={ok:=false,sz:=1,ag:=false,bytes:=0,zero:=[Value.tuple {toList:=[Value.string ⟨#[]⟩,Value.int IntKind.i64 (0)]}],offs:=[],elem:=0,kind:=none,form:=0,eqs:=[],bld:=false}:=by kernel_rfl
@[simp] theorem ty61:tyI Tryz.prog 61={ok:=true,sz:=1,ag:=false,bytes:=8,zero:=[Value.nilFunc],offs:=[],elem:=0,kind:=none,form:=0,eqs:=[],bld:=false}:=by kernel_rfl
@[simp] theorem ty62:tyI Tryz.prog 62={ok:=true,sz:=1,ag:=false,bytes:=8,zero:=[Value.nilFunc],offs:=[],elem:=0,kind:=none,form:=0,eqs:=[],bld:=false}:=by kernel_rfl
@[simp] theorem ty63:tyI Tryz.prog 63={ok:=false,sz:=1,ag:=false,bytes:=0,zero:=[Value.tuple {toList:=[Value.string ⟨#[]⟩,Value.bool false]}],offs:=[],elem:=0,kind:=none,form:=0,eqs:=[],bld:=false}:=by kernel_rfl
@[simp] theorem ty64:tyI Tryz.prog 64={ok:=true,sz:=1,ag:=false,bytes:=8,zero:=[Value.nilFunc],offs:=[],elem:=0,kind:=none,form:=0,eqs:=[],bld:=false}:=by kernel_rfl
@[simp] theorem ty65:tyI Tryz.prog 65={ok:=true,sz:=1,ag:=false,bytes:=8,zero:=[Value.nilFunc],offs:=[],elem:=0,kind:=none,form:=0,eqs:=[],bld:=false}:=by kernel_rfl
@[simp] theorem ty66:tyI Tryz.prog 66={ok:=true,sz:=1,ag:=false,bytes:=24,zero:=[Value.slice none 0 0],offs:=[],elem:=30,kind:=none,form:=2,eqs:=[],bld:=false}:=by kernel_rfl
@[simp] theorem ty67:tyI Tryz.prog 67={ok:=true,sz:=1,ag:=false,bytes:=8,zero:=[Value.nilFunc],offs:=[],elem:=0,kind:=none,form:=0,eqs:=[],bld:=false}:=by kernel_rfl
@[simp] theorem ty68:tyI Tryz.prog 68={ok:=true,sz:=1,ag:=false,bytes:=8,zero:=[Value.nilFunc],offs:=[],elem:=0,kind:=none,form:=0,eqs:=[],bld:=false}:=by kernel_rfl
@[simp] theorem ty69:tyI Tryz.prog 69={ok:=true,sz:=1,ag:=false,bytes:=8,zero:=[Value.nilFunc],offs:=[],elem:=0,kind:=none,form:=0,eqs:=[],bld:=false}:=by kernel_rfl
@[simp] theorem ty70:tyI Tryz.prog 70={ok:=false,sz:=1,ag:=false,bytes:=0,zero:=[Value.tuple {toList:=[Value.slice none 0 0,Value.slice none 0 0,Value.int IntKind.i64 (0)]}],offs:=[],elem:=0,kind:=none,form:=0,eqs:=[],bld:=false}:=by kernel_rfl
@[simp] theorem ty71:tyI Tryz.prog 71={ok:=true,sz:=1,ag:=false,bytes:=8,zero:=[Value.nilFunc],offs:=[],elem:=0,kind:=none,form:=0,eqs:=[],bld:=false}:=by kernel_rfl
@[simp] theorem ty72:tyI Tryz.prog 72={ok:=false,sz:=1,ag:=false,bytes:=0,zero:=[Value.tuple {toList:=[Value.agg {toList:=[Value.slice none 0 0,Value.slice none 0 0]},Value.int IntKind.i64 (0)]}],offs:=[],elem:=0,kind:=none,form:=0,eqs:=[],bld:=false}:=by kernel_rfl
@[simp] theorem ty73:tyI Tryz.prog 73={ok:=true,sz:=1,ag:=false,bytes:=8,zero:=[Value.nilFunc],offs:=[],elem:=0,kind:=none,form:=0,eqs:=[],bld:=false}:=by kernel_rfl
@[simp] theorem ty74:tyI Tryz.prog 74={ok:=true,sz:=1,ag:=false,bytes:=8,zero:=[Value.nilFunc],offs:=[],elem:=0,kind:=none,form:=0,eqs:=[],bld:=false}:=by kernel_rfl
@[simp] theorem ty75:tyI Tryz.prog 75={ok:=false,sz:=1,ag:=false,bytes:=0,zero:=[Value.tuple {toList:=[Value.agg {toList:=[Value.slice none 0 0,Value.slice none 0 0]},Value.int IntKind.i64 (0),Value.int IntKind.i64 (0)]}],offs:=[],elem:=0,kind:=none,form:=0,eqs:=[],bld:=false}:=by kernel_rfl
@[simp] theorem ty76:tyI Tryz.prog 76={ok:=true,sz:=1,ag:=false,bytes:=8,zero:=[Value.nilFunc],offs:=[],elem:=0,kind:=none,form:=0,eqs:=[],bld:=false}:=by kernel_rfl
@[simp] theorem ty77:tyI Tryz.prog 77={ok:=true,sz:=1,ag:=false,bytes:=8,zero:=[Value.nilFunc],offs:=[],elem:=0,kind:=none,form:=0,eqs:=[],bld:=false}:=by kernel_rfl
@[simp] theorem ty78:tyI Tryz.prog 78={ok:=true,sz:=1,ag:=false,bytes:=8,zero:=[Value.nilFunc],offs:=[],elem:=0,kind:=none,form:=0,eqs:=[],bld:=false}:=by kernel_rfl
@[simp] theorem ty79:tyI Tryz.prog 79={ok:=true,sz:=1,ag:=false,bytes:=8,zero:=[Value.nilFunc],offs:=[],elem:=0,kind:=none,form:=0,eqs:=[],bld:=false}:=by kernel_rfl
@[simp] theorem ty80:tyI Tryz.prog 80={ok:=true,sz:=1,ag:=false,bytes:=8,zero:=[Value.nilFunc],offs:=[],elem:=0,kind:=none,form:=0,eqs:=[],bld:=false}:=by kernel_rfl
@[simp] theorem ty81:tyI Tryz.prog 81={ok:=true,sz:=1,ag:=false,bytes:=8,zero:=[Value.nilFunc],offs:=[],elem:=0,kind:=none,form:=0,eqs:=[],bld:=false}:=by kernel_rfl
@[simp] theorem ty82:tyI Tryz.prog 82={ok:=true,sz:=1,ag:=false,bytes:=8,zero:=[Value.nilFunc],offs:=[],elem:=0,kind:=none,form:=0,eqs:=[],bld:=false}:=by kernel_rfl
@[simp] theorem ty83:tyI Tryz.prog 83={ok:=true,sz:=1,ag:=false,bytes:=8,zero:=[Value.nilFunc],offs:=[],elem:=0,kind:=none,form:=0,eqs:=[],bld:=false}:=by kernel_rfl
@[simp] theorem ty84:tyI Tryz.prog 84={ok:=true,sz:=1,ag:=false,bytes:=8,zero:=[Value.nilFunc],offs:=[],elem:=0,kind:=none,form:=0,eqs:=[],bld:=false}:=by kernel_rfl
@[simp] theorem ty85:tyI Tryz.prog 85={ok:=true,sz:=1,ag:=false,bytes:=8,zero:=[Value.nilFunc],offs:=[],elem:=0,kind:=none,form:=0,eqs:=[],bld:=false}:=by kernel_rfl
@[simp] theorem ty86:tyI Tryz.prog 86={ok:=true,sz:=1,ag:=false,bytes:=8,zero:=[Value.nilFunc],offs:=[],elem:=0,kind:=none,form:=0,eqs:=[],bld:=false}:=by kernel_rfl
@[simp] theorem ty87:tyI Tryz.prog 87={ok:=true,sz:=2,ag:=true,bytes:=24,zero:=[Value.int IntKind.i64 (0),Value.string ⟨#[]⟩],offs:=[(0,1,false),(1,1,false)],elem:=0,kind:=none,form:=5,eqs:=[3,1],bld:=true}:=by kernel_rfl
@[simp] theorem ty88:tyI Tryz.prog 88={ok:=true,sz:=2,ag:=true,bytes:=24,zero:=[Value.int IntKind.i64 (0),Value.string ⟨#[]⟩],offs:=[(0,1,false),(1,1,false)],elem:=0,kind:=none,form:=5,eqs:=[3,1],bld:=true}:=by kernel_rfl
@[simp] theorem ty89:tyI Tryz.prog 89={ok:=false,sz:=1,ag:=false,bytes:=0,zero:=[Value.tuple {toList:=[Value.agg {toList:=[Value.bool false,Value.int IntKind.i64 (0),Value.int IntKind.i64 (0),Value.int IntKind.i64 (0),Value.int IntKind.i64 (0),Value.int IntKind.i64 (0),Value.int IntKind.i64 (0),Value.int IntKind.i64 (0),Value.string ⟨#[]⟩,Value.slice none 0 0,Value.int IntKind.i64 (0),Value.int IntKind.i64 (0),Value.int IntKind.i64 (0)]},Value.int IntKind.i64 (0),Value.bool false]}],offs:=[],elem:=0,kind:=none,form:=0,eqs:=[],bld:=false}:=by kernel_rfl
@[simp] theorem ty90:tyI Tryz.prog 90={ok:=true,sz:=1,ag:=false,bytes:=8,zero:=[Value.nilFunc],offs:=[],elem:=0,kind:=none,form:=0,eqs:=[],bld:=false}:=by kernel_rfl
@[simp] theorem ty91:tyI Tryz.prog 91={ok:=true,sz:=1,ag:=false,bytes:=8,zero:=[Value.nilFunc],offs:=[],elem:=0,kind:=none,form:=0,eqs:=[],bld:=false}:=by kernel_rfl
@[simp] theorem ty92:tyI Tryz.prog 92={ok:=true,sz:=1,ag:=false,bytes:=8,zero:=[Value.nilFunc],offs:=[],elem:=0,kind:=none,form:=0,eqs:=[],bld:=false}:=by kernel_rfl
@[simp] theorem ty93:tyI Tryz.prog 93={ok:=true,sz:=1,ag:=false,bytes:=24,zero:=[Value.slice none 0 0],offs:=[],elem:=21,kind:=none,form:=2,eqs:=[],bld:=false}:=by kernel_rfl
@[simp] theorem ty94:tyI Tryz.prog 94={ok:=false,sz:=1,ag:=false,bytes:=0,zero:=[Value.tuple {toList:=[Value.slice none 0 0,Value.bool false]}],offs:=[],elem:=0,kind:=none,form:=0,eqs:=[],bld:=false}:=by kernel_rfl
@[simp] theorem ty95:tyI Tryz.prog 95={ok:=true,sz:=1,ag:=false,bytes:=8,zero:=[Value.nilFunc],offs:=[],elem:=0,kind:=none,form:=0,eqs:=[],bld:=false}:=by kernel_rfl
@[simp] theorem ty96:tyI Tryz.prog 96={ok:=true,sz:=1,ag:=false,bytes:=8,zero:=[Value.nilFunc],offs:=[],elem:=0,kind:=none,form:=0,eqs:=[],bld:=false}:=by kernel_rfl
@[simp] theorem ty97:tyI Tryz.prog 97={ok:=true,sz:=1,ag:=false,bytes:=8,zero:=[Value.nilFunc],offs:=[],elem:=0,kind:=none,form:=0,eqs:=[],bld:=false}:=by kernel_rfl
@[simp] theorem ty98:tyI Tryz.prog 98={ok:=true,sz:=1,ag:=false,bytes:=8,zero:=[Value.nilFunc],offs:=[],elem:=0,kind:=none,form:=0,eqs:=[],bld:=false}:=by kernel_rfl
@[simp] theorem ty99:tyI Tryz.prog 99={ok:=true,sz:=1,ag:=false,bytes:=8,zero:=[Value.nilFunc],offs:=[],elem:=0,kind:=none,form:=0,eqs:=[],bld:=false}:=by kernel_rfl
@[simp] theorem ty100:tyI Tryz.prog 100={ok:=true,sz:=1,ag:=false,bytes:=8,zero:=[Value.nilFunc],offs:=[],elem:=0,kind:=none,form:=0,eqs:=[],bld:=false}:=by kernel_rfl
@[simp] theorem ty101:tyI Tryz.prog 101={ok:=true,sz:=1,ag:=false,bytes:=8,zero:=[Value.nilFunc],offs:=[],elem:=0,kind:=none,form:=0,eqs:=[],bld:=false}:=by kernel_rfl
@[simp] theorem ty102:tyI Tryz.prog 102={ok:=true,sz:=1,ag:=false,bytes:=8,zero:=[Value.nilFunc],offs:=[],elem:=0,kind:=none,form:=0,eqs:=[],bld:=false}:=by kernel_rfl
@[simp] theorem ty103:tyI Tryz.prog 103={ok:=true,sz:=1,ag:=false,bytes:=8,zero:=[Value.nilFunc],offs:=[],elem:=0,kind:=none,form:=0,eqs:=[],bld:=false}:=by kernel_rfl
@[simp] theorem ty104:tyI Tryz.prog 104={ok:=true,sz:=1,ag:=false,bytes:=24,zero:=[Value.slice none 0 0],offs:=[],elem:=5,kind:=none,form:=2,eqs:=[],bld:=false}:=by kernel_rfl
@[simp] theorem ty105:tyI Tryz.prog 105={ok:=true,sz:=1,ag:=false,bytes:=8,zero:=[Value.nilFunc],offs:=[],elem:=0,kind:=none,form:=0,eqs:=[],bld:=false}:=by kernel_rfl
@[simp] theorem ty106:tyI Tryz.prog 106={ok:=true,sz:=1,ag:=false,bytes:=8,zero:=[Value.nilFunc],offs:=[],elem:=0,kind:=none,form:=0,eqs:=[],bld:=false}:=by kernel_rfl
@[simp] theorem ty107:tyI Tryz.prog 107={ok:=true,sz:=1,ag:=false,bytes:=8,zero:=[Value.nilFunc],offs:=[],elem:=0,kind:=none,form:=0,eqs:=[],bld:=false}:=by kernel_rfl
@[simp] theorem ty108:tyI Tryz.prog 108={ok:=true,sz:=1,ag:=false,bytes:=8,zero:=[Value.nilFunc],offs:=[],elem:=0,kind:=none,form:=0,eqs:=[],bld:=false}:=by kernel_rfl
@[simp] theorem ty109:tyI Tryz.prog 109={ok:=true,sz:=1,ag:=false,bytes:=8,zero:=[Value.nilFunc],offs:=[],elem:=0,kind:=none,form:=0,eqs:=[],bld:=false}:=by kernel_rfl
@[simp] theorem ty110:tyI Tryz.prog 110={ok:=true,sz:=1,ag:=false,bytes:=8,zero:=[Value.nilFunc],offs:=[],elem:=0,kind:=none,form:=0,eqs:=[],bld:=false}:=by kernel_rfl
@[simp] theorem ty111:tyI Tryz.prog 111={ok:=true,sz:=1,ag:=false,bytes:=8,zero:=[Value.nilFunc],offs:=[],elem:=0,kind:=none,form:=0,eqs:=[],bld:=false}:=by kernel_rfl
@[simp] theorem ty112:tyI Tryz.prog 112={ok:=true,sz:=4,ag:=true,bytes:=56,zero:=[Value.int IntKind.i64 (0),Value.int IntKind.i64 (0),Value.string ⟨#[]⟩,Value.slice none 0 0],offs:=[(0,1,false),(1,1,false),(2,1,false),(3,1,false)],elem:=0,kind:=none,form:=5,eqs:=[],bld:=true}:=by kernel_rfl
@[simp] theorem ty113:tyI Tryz.prog 113={ok:=true,sz:=4,ag:=true,bytes:=56,zero:=[Value.int IntKind.i64 (0),Value.int IntKind.i64 (0),Value.string ⟨#[]⟩,Value.slice none 0 0],offs:=[(0,1,false),(1,1,false),(2,1,false),(3,1,false)],elem:=0,kind:=none,form:=5,eqs:=[],bld:=true}:=by kernel_rfl
@[simp] theorem ty114:tyI Tryz.prog 114={ok:=true,sz:=1,ag:=false,bytes:=8,zero:=[Value.nilFunc],offs:=[],elem:=0,kind:=none,form:=0,eqs:=[],bld:=false}:=by kernel_rfl
@[simp] theorem ty115:tyI Tryz.prog 115={ok:=true,sz:=1,ag:=false,bytes:=8,zero:=[Value.nilFunc],offs:=[],elem:=0,kind:=none,form:=0,eqs:=[],bld:=false}:=by kernel_rfl
@[simp] theorem ty116:tyI Tryz.prog 116={ok:=true,sz:=1,ag:=false,bytes:=8,zero:=[Value.nilFunc],offs:=[],elem:=0,kind:=none,form:=0,eqs:=[],bld:=false}:=by kernel_rfl
@[simp] theorem ty117:tyI Tryz.prog 117={ok:=true,sz:=1,ag:=false,bytes:=8,zero:=[Value.nilFunc],offs:=[],elem:=0,kind:=none,form:=0,eqs:=[],bld:=false}:=by kernel_rfl
@[simp] theorem ty118:tyI Tryz.prog 118={ok:=true,sz:=1,ag:=false,bytes:=8,zero:=[Value.nilFunc],offs:=[],elem:=0,kind:=none,form:=0,eqs:=[],bld:=false}:=by kernel_rfl
@[simp] theorem ty119:tyI Tryz.prog 119={ok:=true,sz:=1,ag:=false,bytes:=8,zero:=[Value.nilFunc],offs:=[],elem:=0,kind:=none,form:=0,eqs:=[],bld:=false}:=by kernel_rfl
@[simp] theorem ty120:tyI Tryz.prog 120={ok:=true,sz:=1,ag:=false,bytes:=8,zero:=[Value.int IntKind.u64 (0)],offs:=[],elem:=0,kind:=some IntKind.u64,form:=3,eqs:=[],bld:=false}:=by kernel_rfl
@[simp] theorem ty121:tyI Tryz.prog 121={ok:=false,sz:=1,ag:=false,bytes:=0,zero:=[Value.tuple {toList:=[Value.int IntKind.u64 (0),Value.int IntKind.u64 (0)]}],offs:=[],elem:=0,kind:=none,form:=0,eqs:=[],bld:=false}:=by kernel_rfl
@[simp] theorem ty122:tyI Tryz.prog 122={ok:=true,sz:=1,ag:=false,bytes:=8,zero:=[Value.nilFunc],offs:=[],elem:=0,kind:=none,form:=0,eqs:=[],bld:=false}:=by kernel_rfl
@[simp] theorem ty123:tyI Tryz.prog 123={ok:=true,sz:=1,ag:=false,bytes:=8,zero:=[Value.nilFunc],offs:=[],elem:=0,kind:=none,form:=0,eqs:=[],bld:=false}:=by kernel_rfl
@[simp] theorem ty124:tyI Tryz.prog 124={ok:=false,sz:=1,ag:=false,bytes:=0,zero:=[Value.tuple {toList:=[Value.string ⟨#[]⟩,Value.string ⟨#[]⟩,Value.bool false]}],offs:=[],elem:=0,kind:=none,form:=0,eqs:=[],bld:=false}:=by kernel_rfl
@[simp] theorem ty125:tyI Tryz.prog 125={ok:=true,sz:=1,ag:=false,bytes:=8,zero:=[Value.nilFunc],offs:=[],elem:=0,kind:=none,form:=0,eqs:=[],bld:=false}:=by kernel_rfl
@[simp] theorem ty126:tyI Tryz.prog 126={ok:=false,sz:=1,ag:=false,bytes:=0,zero:=[Value.tuple {toList:=[Value.agg {toList:=[Value.bool false,Value.int IntKind.i64 (0),Value.int IntKind.i64 (0),Value.int IntKind.i64 (0),Value.int IntKind.i64 (0),Value.int IntKind.i64 (0),Value.int IntKind.i64 (0),Value.int IntKind.i64 (0),Value.string ⟨#[]⟩,Value.slice none 0 0,Value.int IntKind.i64 (0),Value.int IntKind.i64 (0),Value.int IntKind.i64 (0)]},Value.bool false]}],offs:=[],elem:=0,kind:=none,form:=0,eqs:=[],bld:=false}:=by kernel_rfl
@[simp] theorem ty127:tyI Tryz.prog 127={ok:=true,sz:=1,ag:=false,bytes:=8,zero:=[Value.nilFunc],offs:=[],elem:=0,kind:=none,form:=0,eqs:=[],bld:=false}:=by kernel_rfl
@[simp] theorem ty128:tyI Tryz.prog 128={ok:=true,sz:=1,ag:=false,bytes:=8,zero:=[Value.nilFunc],offs:=[],elem:=0,kind:=none,form:=0,eqs:=[],bld:=false}:=by kernel_rfl
@[simp] theorem ty129:tyI Tryz.prog 129={ok:=true,sz:=1,ag:=false,bytes:=8,zero:=[Value.nilFunc],offs:=[],elem:=0,kind:=none,form:=0,eqs:=[],bld:=false}:=by kernel_rfl
@[simp] theorem ty130:tyI Tryz.prog 130={ok:=false,sz:=1,ag:=false,bytes:=0,zero:=[Value.tuple {toList:=[Value.int IntKind.i32 (0),Value.int IntKind.i64 (0)]}],offs:=[],elem:=0,kind:=none,form:=0,eqs:=[],bld:=false}:=by kernel_rfl
@[simp] theorem ty131:tyI Tryz.prog 131={ok:=true,sz:=1,ag:=false,bytes:=8,zero:=[Value.nilFunc],offs:=[],elem:=0,kind:=none,form:=0,eqs:=[],bld:=false}:=by kernel_rfl
@[simp] theorem ty132:tyI Tryz.prog 132={ok:=true,sz:=1,ag:=false,bytes:=8,zero:=[Value.nilFunc],offs:=[],elem:=0,kind:=none,form:=0,eqs:=[],bld:=false}:=by kernel_rfl
@[simp] theorem ty133:tyI Tryz.prog 133={ok:=true,sz:=1,ag:=false,bytes:=8,zero:=[Value.nilFunc],offs:=[],elem:=0,kind:=none,form:=0,eqs:=[],bld:=false}:=by kernel_rfl
@[simp] theorem ty134:tyI Tryz.prog 134={ok:=true,sz:=1,ag:=false,bytes:=4,zero:=[Value.int IntKind.u32 (0)],offs:=[],elem:=0,kind:=some IntKind.u32,form:=3,eqs:=[],bld:=false}:=by kernel_rfl
@[simp] theorem ty135:tyI Tryz.prog 135={ok:=true,sz:=1,ag:=false,bytes:=8,zero:=[Value.nilFunc],offs:=[],elem:=0,kind:=none,form:=0,eqs:=[],bld:=false}:=by kernel_rfl
@[simp] theorem ty136:tyI Tryz.prog 136={ok:=false,sz:=1,ag:=false,bytes:=0,zero:=[Value.tuple {toList:=[Value.int IntKind.i64 (0),Value.string ⟨#[]⟩,Value.bool false]}],offs:=[],elem:=0,kind:=none,form:=0,eqs:=[],bld:=false}:=by kernel_rfl
@[simp] theorem ty137:tyI Tryz.prog 137={ok:=true,sz:=1,ag:=false,bytes:=8,zero:=[Value.nilFunc],offs:=[],elem:=0,kind:=none,form:=0,eqs:=[],bld:=false}:=by kernel_rfl
@[simp] theorem ty138:tyI Tryz.prog 138={ok:=false,sz:=1,ag:=false,bytes:=0,zero:=[Value.tuple {toList:=[Value.agg {toList:=[Value.int IntKind.i64 (0),Value.int IntKind.i64 (0),Value.int IntKind.i64 (0),Value.int IntKind.i64 (0),Value.int IntKind.i64 (0),Value.int IntKind.i64 (0),Value.string ⟨#[]⟩,Value.slice none 0 0,Value.int IntKind.i64 (0),Value.int IntKind.i64 (0),Value.int IntKind.i64 (0)]},Value.string ⟨#[]⟩,Value.bool false]}],offs:=[],elem:=0,kind:=none,form:=0,eqs:=[],bld:=false}:=by kernel_rfl
@[simp] theorem ty139:tyI Tryz.prog 139={ok:=true,sz:=1,ag:=false,bytes:=8,zero:=[Value.nilFunc],offs:=[],elem:=0,kind:=none,form:=0,eqs:=[],bld:=false}:=by kernel_rfl
@[simp] theorem ty140:tyI Tryz.prog 140={ok:=true,sz:=1,ag:=false,bytes:=8,zero:=[Value.nilFunc],offs:=[],elem:=0,kind:=none,form:=0,eqs:=[],bld:=false}:=by kernel_rfl
@[simp] theorem ty141:tyI Tryz.prog 141={ok:=true,sz:=1,ag:=false,bytes:=8,zero:=[Value.nilFunc],offs:=[],elem:=0,kind:=none,form:=0,eqs:=[],bld:=false}:=by kernel_rfl
@[simp] theorem ty142:tyI Tryz.prog 142={ok:=true,sz:=1,ag:=false,bytes:=8,zero:=[Value.nilFunc],offs:=[],elem:=0,kind:=none,form:=0,eqs:=[],bld:=false}:=by kernel_rfl
@[simp] theorem ty143:tyI Tryz.prog 143={ok:=true,sz:=1,ag:=false,bytes:=8,zero:=[Value.nilFunc],offs:=[],elem:=0,kind:=none,form:=0,eqs:=[],bld:=false}:=by kernel_rfl
@[simp] theorem ty144:tyI Tryz.prog 144={ok:=true,sz:=1,ag:=false,bytes:=8,zero:=[Value.nilFunc],offs:=[],elem:=0,kind:=none,form:=0,eqs:=[],bld:=false}:=by kernel_rfl
@[simp] theorem ty145:tyI Tryz.prog 145={ok:=false,sz:=1,ag:=false,bytes:=0,zero:=[Value.tuple {toList:=[Value.int IntKind.u32 (0),Value.int IntKind.u32 (0)]}],offs:=[],elem:=0,kind:=none,form:=0,eqs:=[],bld:=false}:=by kernel_rfl
@[simp] theorem ty146:tyI Tryz.prog 146={ok:=true,sz:=1,ag:=false,bytes:=8,zero:=[Value.nilFunc],offs:=[],elem:=0,kind:=none,form:=0,eqs:=[],bld:=false}:=by kernel_rfl
@[simp] theorem ty147:tyI Tryz.prog 147={ok:=true,sz:=1,ag:=false,bytes:=8,zero:=[Value.int IntKind.u64 (0)],offs:=[],elem:=0,kind:=some IntKind.u64,form:=3,eqs:=[],bld:=false}:=by kernel_rfl
@[simp] theorem ty148:tyI Tryz.prog 148={ok:=false,sz:=1,ag:=false,bytes:=0,zero:=[Value.tuple {toList:=[Value.int IntKind.u64 (0),Value.int IntKind.u64 (0)]}],offs:=[],elem:=0,kind:=none,form:=0,eqs:=[],bld:=false}:=by kernel_rfl
@[simp] theorem ty149:tyI Tryz.prog 149={ok:=true,sz:=1,ag:=false,bytes:=8,zero:=[Value.nilFunc],offs:=[],elem:=0,kind:=none,form:=0,eqs:=[],bld:=false}:=by kernel_rfl
@[simp] theorem ty150:tyI Tryz.prog 150={ok:=true,sz:=1,ag:=false,bytes:=8,zero:=[Value.pointer none],offs:=[],elem:=0,kind:=none,form:=0,eqs:=[],bld:=false}:=by kernel_rfl
@[simp] theorem ty151:tyI Tryz.prog 151={ok:=true,sz:=2,ag:=true,bytes:=32,zero:=[Value.pointer none,Value.slice none 0 0],offs:=[(0,1,false),(1,1,false)],elem:=0,kind:=none,form:=5,eqs:=[],bld:=true}:=by kernel_rfl
@[simp] theorem ty152:tyI Tryz.prog 152={ok:=true,sz:=2,ag:=true,bytes:=32,zero:=[Value.pointer none,Value.slice none 0 0],offs:=[(0,1,false),(1,1,false)],elem:=0,kind:=none,form:=5,eqs:=[],bld:=true}:=by kernel_rfl
@[simp] theorem ty153:tyI Tryz.prog 153={ok:=true,sz:=1,ag:=false,bytes:=8,zero:=[Value.nilFunc],offs:=[],elem:=0,kind:=none,form:=0,eqs:=[],bld:=false}:=by kernel_rfl
@[simp] theorem ty154:tyI Tryz.prog 154={ok:=true,sz:=1,ag:=false,bytes:=16,zero:=[Value.nilIface],offs:=[],elem:=0,kind:=none,form:=0,eqs:=[],bld:=false}:=by kernel_rfl
@[simp] theorem ty155:tyI Tryz.prog 155={ok:=true,sz:=1,ag:=false,bytes:=16,zero:=[Value.nilIface],offs:=[],elem:=0,kind:=none,form:=0,eqs:=[],bld:=false}:=by kernel_rfl
@[simp] theorem ty156:tyI Tryz.prog 156={ok:=false,sz:=1,ag:=false,bytes:=0,zero:=[Value.tuple {toList:=[Value.int IntKind.i64 (0),Value.nilIface]}],offs:=[],elem:=0,kind:=none,form:=0,eqs:=[],bld:=false}:=by kernel_rfl
@[simp] theorem ty157:tyI Tryz.prog 157={ok:=true,sz:=1,ag:=false,bytes:=8,zero:=[Value.nilFunc],offs:=[],elem:=0,kind:=none,form:=0,eqs:=[],bld:=false}:=by kernel_rfl
@[simp] theorem ty158:tyI Tryz.prog 158={ok:=false,sz:=1,ag:=false,bytes:=0,zero:=[Value.tuple {toList:=[Value.int IntKind.i64 (0),Value.string ⟨#[]⟩,Value.int IntKind.i64 (0)]}],offs:=[],elem:=0,kind:=none,form:=0,eqs:=[],bld:=false}:=by kernel_rfl
@[simp] theorem ty159:tyI Tryz.prog 159={ok:=true,sz:=1,ag:=false,bytes:=8,zero:=[Value.nilFunc],offs:=[],elem:=0,kind:=none,form:=0,eqs:=[],bld:=false}:=by kernel_rfl
@[simp] theorem ty160:tyI Tryz.prog 160={ok:=false,sz:=1,ag:=false,bytes:=0,zero:=[Value.tuple {toList:=[Value.agg {toList:=[Value.int IntKind.i64 (0),Value.int IntKind.i64 (0),Value.int IntKind.i64 (0),Value.int IntKind.i64 (0),Value.int IntKind.i64 (0),Value.int IntKind.i64 (0),Value.string ⟨#[]⟩,Value.slice none 0 0,Value.int IntKind.i64 (0),Value.int IntKind.i64 (0),Value.int IntKind.i64 (0)]},Value.string ⟨#[]⟩,Value.int IntKind.i64 (0)]}],offs:=[],elem:=0,kind:=none,form:=0,eqs:=[],bld:=false}:=by kernel_rfl
@[simp] theorem ty161:tyI Tryz.prog 161={ok:=true,sz:=1,ag:=false,bytes:=8,zero:=[Value.nilFunc],offs:=[],elem:=0,kind:=none,form:=0,eqs:=[],bld:=false}:=by kernel_rfl
@[simp] theorem ty162:tyI Tryz.prog 162={ok:=true,sz:=1,ag:=false,bytes:=8,zero:=[Value.nilFunc],offs:=[],elem:=0,kind:=none,form:=0,eqs:=[],bld:=false}:=by kernel_rfl
@[simp] theorem ty163:tyI Tryz.prog 163={ok:=true,sz:=1,ag:=false,bytes:=8,zero:=[Value.pointer none],offs:=[],elem:=0,kind:=none,form:=0,eqs:=[],bld:=false}:=by kernel_rfl
@[simp] theorem ty164:tyI Tryz.prog 164={ok:=true,sz:=2,ag:=true,bytes:=24,zero:=[Value.string ⟨#[]⟩,Value.bool false],offs:=[(0,1,false),(1,1,false)],elem:=0,kind:=none,form:=5,eqs:=[1,4],bld:=true}:=by kernel_rfl
@[simp] theorem ty165:tyI Tryz.prog 165={ok:=true,sz:=2,ag:=true,bytes:=24,zero:=[Value.string ⟨#[]⟩,Value.bool false],offs:=[(0,1,false),(1,1,false)],elem:=0,kind:=none,form:=5,eqs:=[1,4],bld:=true}:=by kernel_rfl
@[simp] theorem ty166:tyI Tryz.prog 166={ok:=true,sz:=1,ag:=false,bytes:=8,zero:=[Value.nilFunc],offs:=[],elem:=0,kind:=none,form:=0,eqs:=[],bld:=false}:=by kernel_rfl
@[simp] theorem ty167:tyI Tryz.prog 167={ok:=true,sz:=1,ag:=false,bytes:=8,zero:=[Value.nilFunc],offs:=[],elem:=0,kind:=none,form:=0,eqs:=[],bld:=false}:=by kernel_rfl
@[simp] theorem ty168:tyI Tryz.prog 168={ok:=true,sz:=1,ag:=false,bytes:=8,zero:=[Value.pointer none],offs:=[],elem:=0,kind:=none,form:=0,eqs:=[],bld:=false}:=by kernel_rfl
@[simp] theorem ty169:tyI Tryz.prog 169={ok:=true,sz:=1,ag:=false,bytes:=8,zero:=[Value.pointer none],offs:=[],elem:=0,kind:=none,form:=0,eqs:=[],bld:=false}:=by kernel_rfl
@[simp] theorem ty170:tyI Tryz.prog 170={ok:=true,sz:=2,ag:=true,bytes:=24,zero:=[Value.string ⟨#[]⟩,Value.bool false],offs:=[(0,1,false),(1,1,false)],elem:=0,kind:=none,form:=5,eqs:=[1,4],bld:=true}:=by kernel_rfl
@[simp] theorem ty171:tyI Tryz.prog 171={ok:=true,sz:=2,ag:=true,bytes:=24,zero:=[Value.string ⟨#[]⟩,Value.bool false],offs:=[(0,1,false),(1,1,false)],elem:=0,kind:=none,form:=5,eqs:=[1,4],bld:=true}:=by kernel_rfl
@[simp] theorem ty173:tyI Tryz.prog 173={ok:=true,sz:=2,ag:=true,bytes:=2,zero:=[Value.int IntKind.u8 (0),Value.int IntKind.u8 (0)],offs:=[(0,1,false),(1,1,false)],elem:=0,kind:=none,form:=5,eqs:=[3,3],bld:=true}:=by kernel_rfl
@[simp] theorem ty174:tyI Tryz.prog 174={ok:=true,sz:=2,ag:=true,bytes:=2,zero:=[Value.int IntKind.u8 (0),Value.int IntKind.u8 (0)],offs:=[(0,1,false),(1,1,false)],elem:=0,kind:=none,form:=5,eqs:=[3,3],bld:=true}:=by kernel_rfl
@[simp] theorem ty175:tyI Tryz.prog 175={ok:=true,sz:=32,ag:=true,bytes:=32,zero:=[Value.int IntKind.u8 (0),Value.int IntKind.u8 (0),Value.int IntKind.u8 (0),Value.int IntKind.u8 (0),Value.int IntKind.u8 (0),Value.int IntKind.u8 (0),Value.int IntKind.u8 (0),Value.int IntKind.u8 (0),Value.int IntKind.u8 (0),Value.int IntKind.u8 (0),Value.int IntKind.u8 (0),Value.int IntKind.u8 (0),Value.int IntKind.u8 (0),Value.int IntKind.u8 (0),Value.int IntKind.u8 (0),Value.int IntKind.u8 (0),Value.int IntKind.u8 (0),Value.int IntKind.u8 (0),Value.int IntKind.u8 (0),Value.int IntKind.u8 (0),Value.int IntKind.u8 (0),Value.int IntKind.u8 (0),Value.int IntKind.u8 (0),Value.int IntKind.u8 (0),Value.int IntKind.u8 (0),Value.int IntKind.u8 (0),Value.int IntKind.u8 (0),Value.int IntKind.u8 (0),Value.int IntKind.u8 (0),Value.int IntKind.u8 (0),Value.int IntKind.u8 (0),Value.int IntKind.u8 (0)],offs:=[],elem:=0,kind:=none,form:=0,eqs:=[],bld:=false}:=by kernel_rfl
@[simp] theorem ty176:tyI Tryz.prog 176={ok:=true,sz:=1,ag:=false,bytes:=8,zero:=[Value.nilFunc],offs:=[],elem:=0,kind:=none,form:=0,eqs:=[],bld:=false}:=by kernel_rfl
@[simp] theorem ty177:tyI Tryz.prog 177={ok:=true,sz:=1,ag:=false,bytes:=8,zero:=[Value.nilFunc],offs:=[],elem:=0,kind:=none,form:=0,eqs:=[],bld:=false}:=by kernel_rfl
@[simp] theorem ty178:tyI Tryz.prog 178={ok:=true,sz:=1,ag:=false,bytes:=8,zero:=[Value.nilFunc],offs:=[],elem:=0,kind:=none,form:=0,eqs:=[],bld:=false}:=by kernel_rfl
@[simp] theorem ty179:tyI Tryz.prog 179={ok:=true,sz:=1,ag:=false,bytes:=8,zero:=[Value.pointer none],offs:=[],elem:=0,kind:=none,form:=0,eqs:=[],bld:=false}:=by kernel_rfl
@[simp] theorem ty180:tyI Tryz.prog 180={ok:=true,sz:=1,ag:=false,bytes:=8,zero:=[Value.nilFunc],offs:=[],elem:=0,kind:=none,form:=0,eqs:=[],bld:=false}:=by kernel_rfl
@[simp] theorem ty181:tyI Tryz.prog 181={ok:=true,sz:=1,ag:=false,bytes:=8,zero:=[Value.nilFunc],offs:=[],elem:=0,kind:=none,form:=0,eqs:=[],bld:=false}:=by kernel_rfl
@[simp] theorem ty182:tyI Tryz.prog 182={ok:=true,sz:=1,ag:=false,bytes:=8,zero:=[Value.nilFunc],offs:=[],elem:=0,kind:=none,form:=0,eqs:=[],bld:=false}:=by kernel_rfl
@[simp] theorem ty183:tyI Tryz.prog 183={ok:=true,sz:=1,ag:=false,bytes:=8,zero:=[Value.nilFunc],offs:=[],elem:=0,kind:=none,form:=0,eqs:=[],bld:=false}:=by kernel_rfl
@[simp] theorem ty184:tyI Tryz.prog 184={ok:=false,sz:=1,ag:=false,bytes:=0,zero:=[Value.tuple {toList:=[Value.string ⟨#[]⟩,Value.string ⟨#[]⟩,Value.int IntKind.i64 (0)]}],offs:=[],elem:=0,kind:=none,form:=0,eqs:=[],bld:=false}:=by kernel_rfl
@[simp] theorem ty185:tyI Tryz.prog 185={ok:=true,sz:=1,ag:=false,bytes:=8,zero:=[Value.nilFunc],offs:=[],elem:=0,kind:=none,form:=0,eqs:=[],bld:=false}:=by kernel_rfl
@[simp] theorem ty186:tyI Tryz.prog 186={ok:=true,sz:=1,ag:=false,bytes:=8,zero:=[Value.nilFunc],offs:=[],elem:=0,kind:=none,form:=0,eqs:=[],bld:=false}:=by kernel_rfl
@[simp] theorem ty187:tyI Tryz.prog 187={ok:=true,sz:=1,ag:=false,bytes:=8,zero:=[Value.nilFunc],offs:=[],elem:=0,kind:=none,form:=0,eqs:=[],bld:=false}:=by kernel_rfl
@[simp] theorem ty188:tyI Tryz.prog 188={ok:=true,sz:=4,ag:=true,bytes:=40,zero:=[Value.pointer none,Value.pointer none,Value.pointer none,Value.string ⟨#[]⟩],offs:=[(0,1,false),(1,1,false),(2,1,false),(3,1,false)],elem:=0,kind:=none,form:=5,eqs:=[],bld:=true}:=by kernel_rfl
@[simp] theorem ty189:tyI Tryz.prog 189={ok:=true,sz:=4,ag:=true,bytes:=40,zero:=[Value.pointer none,Value.pointer none,Value.pointer none,Value.string ⟨#[]⟩],offs:=[(0,1,false),(1,1,false),(2,1,false),(3,1,false)],elem:=0,kind:=none,form:=5,eqs:=[],bld:=true}:=by kernel_rfl
@[simp] theorem ty190:tyI Tryz.prog 190={ok:=true,sz:=0,ag:=true,bytes:=0,zero:=[],offs:=[],elem:=0,kind:=none,form:=0,eqs:=[],bld:=false}:=by kernel_rfl
@[simp] theorem ty191:tyI Tryz.prog 191={ok:=true,sz:=0,ag:=true,bytes:=0,zero:=[],offs:=[(0,0,true)],elem:=0,kind:=none,form:=5,eqs:=[],bld:=true}:=by kernel_rfl
@[simp] theorem ty192:tyI Tryz.prog 192={ok:=true,sz:=0,ag:=true,bytes:=0,zero:=[],offs:=[(0,0,true)],elem:=0,kind:=none,form:=5,eqs:=[],bld:=true}:=by kernel_rfl
@[simp] theorem ty193:tyI Tryz.prog 193={ok:=true,sz:=1,ag:=false,bytes:=1,zero:=[Value.int IntKind.u8 (0)],offs:=[],elem:=0,kind:=some IntKind.u8,form:=3,eqs:=[],bld:=false}:=by kernel_rfl
@[simp] theorem ty194:tyI Tryz.prog 194={ok:=true,sz:=1,ag:=false,bytes:=1,zero:=[Value.int IntKind.u8 (0)],offs:=[],elem:=0,kind:=some IntKind.u8,form:=3,eqs:=[],bld:=false}:=by kernel_rfl
@[simp] theorem ty195:tyI Tryz.prog 195={ok:=true,sz:=1,ag:=false,bytes:=8,zero:=[Value.nilFunc],offs:=[],elem:=0,kind:=none,form:=0,eqs:=[],bld:=false}:=by kernel_rfl
@[simp] theorem ty196:tyI Tryz.prog 196={ok:=true,sz:=1,ag:=false,bytes:=4,zero:=[Value.int IntKind.i32 (0)],offs:=[],elem:=0,kind:=some IntKind.i32,form:=3,eqs:=[],bld:=false}:=by kernel_rfl
@[simp] theorem ty197:tyI Tryz.prog 197={ok:=true,sz:=1,ag:=false,bytes:=4,zero:=[Value.int IntKind.i32 (0)],offs:=[],elem:=0,kind:=some IntKind.i32,form:=3,eqs:=[],bld:=false}:=by kernel_rfl
@[simp] theorem ty198:tyI Tryz.prog 198={ok:=true,sz:=11,ag:=true,bytes:=48,zero:=[Value.int IntKind.u64 (0),Value.int IntKind.u64 (0),Value.int IntKind.u32 (0),Value.int IntKind.u8 (0),Value.int IntKind.u8 (0),Value.int IntKind.u8 (0),Value.int IntKind.u8 (0),Value.nilFunc,Value.pointer none,Value.int IntKind.i32 (0),Value.int IntKind.i32 (0)],offs:=[(0,1,false),(1,1,false),(2,1,false),(3,1,false),(4,1,false),(5,1,false),(6,1,false),(7,1,false),(8,1,false),(9,1,false),(10,1,false)],elem:=0,kind:=none,form:=5,eqs:=[],bld:=true}:=by kernel_rfl
@[simp] theorem ty199:tyI Tryz.prog 199={ok:=true,sz:=11,ag:=true,bytes:=48,zero:=[Value.int IntKind.u64 (0),Value.int IntKind.u64 (0),Value.int IntKind.u32 (0),Value.int IntKind.u8 (0),Value.int IntKind.u8 (0),Value.int IntKind.u8 (0),Value.int IntKind.u8 (0),Value.nilFunc,Value.pointer none,Value.int IntKind.i32 (0),Value.int IntKind.i32 (0)],offs:=[(0,1,false),(1,1,false),(2,1,false),(3,1,false),(4,1,false),(5,1,false),(6,1,false),(7,1,false),(8,1,false),(9,1,false),(10,1,false)],elem:=0,kind:=none,form:=5,eqs:=[],bld:=true}:=by kernel_rfl
theorem mixed:Tryz.prog.follows .mixedOrders=true:=by kernel_rfl
end Go.AE
set_option maxRecDepth 100000
set_option maxHeartbeats 4000000
set_option linter.unusedVariables false
namespace Go.AE
open Go Go.Proofs
def kf6:List Nat:=[]
def s6L0:SC:=(⟨_,by cbv⟩:{x//slB kf6 Tryz.f6.body [] 0=x}).1
def s6:SC:=(⟨_,fun a=>by cbv⟩:{x:SC→SC//∀a,slW kf6 Tryz.f6.body [a]=x a}).1 s6L0
theorem sl6:slimK Tryz.f6.body s6=some (unK s6,true):=by kernel_rfl
theorem ok6:fnOK calmB Tryz.f6 0=true:=by kernel_rfl
def s10:SC:=(⟨_,by cbv⟩:{x//slW kf6 Tryz.f10.body []=x}).1
theorem sl10:slimK Tryz.f10.body s10=some (unK s10,true):=by kernel_rfl
theorem ok10:fnOK calmB Tryz.f10 0=true:=by kernel_rfl
def s11L0:SC:=(⟨_,by cbv⟩:{x//slB kf6 Tryz.f11.body [] 0=x}).1
def s11:SC:=(⟨_,fun a=>by cbv⟩:{x:SC→SC//∀a,slW kf6 Tryz.f11.body [a]=x a}).1 s11L0
theorem sl11:slimK Tryz.f11.body s11=some (unK s11,true):=by kernel_rfl
theorem ok11:fnOK calmB Tryz.f11 0=true:=by kernel_rfl
def s23:SC:=(⟨_,by cbv⟩:{x//slW kf6 Tryz.f23.body []=x}).1
theorem sl23:slimK Tryz.f23.body s23=some (unK s23,true):=by kernel_rfl
theorem ok23:fnOK calmB Tryz.f23 0=true:=by kernel_rfl
def s24L0:SC:=(⟨_,by cbv⟩:{x//slB kf6 Tryz.f24.body [] 0=x}).1
def s24L1:SC:=(⟨_,fun a=>by cbv⟩:{x:SC→SC//∀a,slB kf6 Tryz.f24.body [a] 1=x a}).1 s24L0
def s24:SC:=(⟨_,fun a b=>by cbv⟩:{x:SC→SC→SC//∀a b,slW kf6 Tryz.f24.body [a,b]=x a b}).1 s24L0 s24L1
theorem sl24:slimK Tryz.f24.body s24=some (unK s24,true):=by kernel_rfl
theorem ok24:fnOK calmB Tryz.f24 0=true:=by kernel_rfl
def s27:SC:=(⟨_,by cbv⟩:{x//slW kf6 Tryz.f27.body []=x}).1
theorem sl27:slimK Tryz.f27.body s27=some (unK s27,true):=by kernel_rfl
theorem ok27:fnOK calmB Tryz.f27 0=true:=by kernel_rfl
def s29L0:SC:=(⟨_,by cbv⟩:{x//slB kf6 Tryz.f29.body [] 0=x}).1
def s29L1:SC:=(⟨_,fun a=>by cbv⟩:{x:SC→SC//∀a,slB kf6 Tryz.f29.body [a] 1=x a}).1 s29L0
def s29:SC:=(⟨_,fun a b=>by cbv⟩:{x:SC→SC→SC//∀a b,slW kf6 Tryz.f29.body [a,b]=x a b}).1 s29L0 s29L1
theorem sl29:slimK Tryz.f29.body s29=some (unK s29,true):=by kernel_rfl
theorem ok29:fnOK calmB Tryz.f29 0=true:=by kernel_rfl
def s32L0:SC:=(⟨_,by cbv⟩:{x//slB kf6 Tryz.f32.body [] 0=x}).1
def s32:SC:=(⟨_,fun a=>by cbv⟩:{x:SC→SC//∀a,slW kf6 Tryz.f32.body [a]=x a}).1 s32L0
theorem sl32:slimK Tryz.f32.body s32=some (unK s32,true):=by kernel_rfl
theorem ok32:fnOK calmB Tryz.f32 0=true:=by kernel_rfl
def s33:SC:=(⟨_,by cbv⟩:{x//slW kf6 Tryz.f33.body []=x}).1
theorem sl33:slimK Tryz.f33.body s33=some (unK s33,true):=by kernel_rfl
theorem ok33:fnOK calmB Tryz.f33 0=true:=by kernel_rfl
def s36:SC:=(⟨_,by cbv⟩:{x//slW kf6 Tryz.f36.body []=x}).1
theorem sl36:slimK Tryz.f36.body s36=some (unK s36,true):=by kernel_rfl
theorem ok36:fnOK calmB Tryz.f36 0=true:=by kernel_rfl
def s39:SC:=(⟨_,by cbv⟩:{x//slW kf6 Tryz.f39.body []=x}).1
theorem sl39:slimK Tryz.f39.body s39=some (unK s39,true):=by kernel_rfl
theorem ok39:fnOK calmB Tryz.f39 0=true:=by kernel_rfl
def s40L0:SC:=(⟨_,by cbv⟩:{x//slB kf6 Tryz.f40.body [] 0=x}).1
def s40:SC:=(⟨_,fun a=>by cbv⟩:{x:SC→SC//∀a,slW kf6 Tryz.f40.body [a]=x a}).1 s40L0
theorem sl40:slimK Tryz.f40.body s40=some (unK s40,true):=by kernel_rfl
theorem ok40:fnOK calmB Tryz.f40 0=true:=by kernel_rfl
def s41:SC:=(⟨_,by cbv⟩:{x//slW kf6 Tryz.f41.body []=x}).1
theorem sl41:slimK Tryz.f41.body s41=some (unK s41,true):=by kernel_rfl
theorem ok41:fnOK calmB Tryz.f41 0=true:=by kernel_rfl
def s43:SC:=(⟨_,by cbv⟩:{x//slW kf6 Tryz.f43.body []=x}).1
theorem sl43:slimK Tryz.f43.body s43=some (unK s43,true):=by kernel_rfl
theorem ok43:fnOK calmB Tryz.f43 0=true:=by kernel_rfl
def s45:SC:=(⟨_,by cbv⟩:{x//slW kf6 Tryz.f45.body []=x}).1
theorem sl45:slimK Tryz.f45.body s45=some (unK s45,true):=by kernel_rfl
theorem ok45:fnOK calmB Tryz.f45 0=true:=by kernel_rfl
def s51:SC:=(⟨_,by cbv⟩:{x//slW kf6 Tryz.f51.body []=x}).1
theorem sl51:slimK Tryz.f51.body s51=some (unK s51,true):=by kernel_rfl
theorem ok51:fnOK calmB Tryz.f51 0=true:=by kernel_rfl
def s55:SC:=(⟨_,by cbv⟩:{x//slW kf6 Tryz.f55.body []=x}).1
theorem sl55:slimK Tryz.f55.body s55=some (unK s55,true):=by kernel_rfl
theorem ok55:fnOK calmB Tryz.f55 0=true:=by kernel_rfl
def s56L0:SC:=(⟨_,by cbv⟩:{x//slB kf6 Tryz.f56.body [] 0=x}).1
def s56:SC:=(⟨_,fun a=>by cbv⟩:{x:SC→SC//∀a,slW kf6 Tryz.f56.body [a]=x a}).1 s56L0
theorem sl56:slimK Tryz.f56.body s56=some (unK s56,true):=by kernel_rfl
theorem ok56:fnOK calmB Tryz.f56 0=true:=by kernel_rfl
def s57:SC:=(⟨_,by cbv⟩:{x//slW kf6 Tryz.f57.body []=x}).1
theorem sl57:slimK Tryz.f57.body s57=some (unK s57,true):=by kernel_rfl
theorem ok57:fnOK calmB Tryz.f57 0=true:=by kernel_rfl
def s58L0:SC:=(⟨_,by cbv⟩:{x//slB kf6 Tryz.f58.body [] 0=x}).1
def s58:SC:=(⟨_,fun a=>by cbv⟩:{x:SC→SC//∀a,slW kf6 Tryz.f58.body [a]=x a}).1 s58L0
theorem sl58:slimK Tryz.f58.body s58=some (unK s58,true):=by kernel_rfl
theorem ok58:fnOK calmB Tryz.f58 0=true:=by kernel_rfl
def s59L0:SC:=(⟨_,by cbv⟩:{x//slB kf6 Tryz.f59.body [] 0=x}).1
def s59:SC:=(⟨_,fun a=>by cbv⟩:{x:SC→SC//∀a,slW kf6 Tryz.f59.body [a]=x a}).1 s59L0
theorem sl59:slimK Tryz.f59.body s59=some (unK s59,true):=by kernel_rfl
theorem ok59:fnOK calmB Tryz.f59 0=true:=by kernel_rfl
def s61:SC:=(⟨_,by cbv⟩:{x//slW kf6 Tryz.f61.body []=x}).1
theorem sl61:slimK Tryz.f61.body s61=some (unK s61,true):=by kernel_rfl
theorem ok61:fnOK calmB Tryz.f61 0=true:=by kernel_rfl
def s62L0:SC:=(⟨_,by cbv⟩:{x//slB kf6 Tryz.f62.body [] 0=x}).1
def s62:SC:=(⟨_,fun a=>by cbv⟩:{x:SC→SC//∀a,slW kf6 Tryz.f62.body [a]=x a}).1 s62L0
theorem sl62:slimK Tryz.f62.body s62=some (unK s62,true):=by kernel_rfl
theorem ok62:fnOK calmB Tryz.f62 0=true:=by kernel_rfl
def s63L0:SC:=(⟨_,by cbv⟩:{x//slB kf6 Tryz.f63.body [] 0=x}).1
def s63:SC:=(⟨_,fun a=>by cbv⟩:{x:SC→SC//∀a,slW kf6 Tryz.f63.body [a]=x a}).1 s63L0
theorem sl63:slimK Tryz.f63.body s63=some (unK s63,true):=by kernel_rfl
theorem ok63:fnOK calmB Tryz.f63 0=true:=by kernel_rfl
def s65L0:SC:=(⟨_,by cbv⟩:{x//slB kf6 Tryz.f65.body [] 0=x}).1
def s65L1:SC:=(⟨_,fun a=>by cbv⟩:{x:SC→SC//∀a,slB kf6 Tryz.f65.body [a] 1=x a}).1 s65L0
def s65:SC:=(⟨_,fun a b=>by cbv⟩:{x:SC→SC→SC//∀a b,slW kf6 Tryz.f65.body [a,b]=x a b}).1 s65L0 s65L1
theorem sl65:slimK Tryz.f65.body s65=some (unK s65,true):=by kernel_rfl
theorem ok65:fnOK calmB Tryz.f65 0=true:=by kernel_rfl
def s67:SC:=(⟨_,by cbv⟩:{x//slW kf6 Tryz.f67.body []=x}).1
theorem sl67:slimK Tryz.f67.body s67=some (unK s67,true):=by kernel_rfl
theorem ok67:fnOK calmB Tryz.f67 0=true:=by kernel_rfl
def s68:SC:=(⟨_,by cbv⟩:{x//slW kf6 Tryz.f68.body []=x}).1
theorem sl68:slimK Tryz.f68.body s68=some (unK s68,true):=by kernel_rfl
theorem ok68:fnOK calmB Tryz.f68 0=true:=by kernel_rfl
def s69:SC:=(⟨_,by cbv⟩:{x//slW kf6 Tryz.f69.body []=x}).1
theorem sl69:slimK Tryz.f69.body s69=some (unK s69,true):=by kernel_rfl
theorem ok69:fnOK calmB Tryz.f69 0=true:=by kernel_rfl
def s70:SC:=(⟨_,by cbv⟩:{x//slW kf6 Tryz.f70.body []=x}).1
theorem sl70:slimK Tryz.f70.body s70=some (unK s70,true):=by kernel_rfl
theorem ok70:fnOK calmB Tryz.f70 0=true:=by kernel_rfl
def s71:SC:=(⟨_,by cbv⟩:{x//slW kf6 Tryz.f71.body []=x}).1
theorem sl71:slimK Tryz.f71.body s71=some (unK s71,true):=by kernel_rfl
theorem ok71:fnOK calmB Tryz.f71 0=true:=by kernel_rfl
def s78:SC:=(⟨_,by cbv⟩:{x//slW kf6 Tryz.f78.body []=x}).1
theorem sl78:slimK Tryz.f78.body s78=some (unK s78,true):=by kernel_rfl
theorem ok78:fnOK calmB Tryz.f78 0=true:=by kernel_rfl
def s79:SC:=(⟨_,by cbv⟩:{x//slW kf6 Tryz.f79.body []=x}).1
theorem sl79:slimK Tryz.f79.body s79=some (unK s79,true):=by kernel_rfl
theorem ok79:fnOK calmB Tryz.f79 0=true:=by kernel_rfl
def s94L0:SC:=(⟨_,by cbv⟩:{x//slB kf6 Tryz.f94.body [] 0=x}).1
def s94:SC:=(⟨_,fun a=>by cbv⟩:{x:SC→SC//∀a,slW kf6 Tryz.f94.body [a]=x a}).1 s94L0
theorem sl94:slimK Tryz.f94.body s94=some (unK s94,true):=by kernel_rfl
theorem ok94:fnOK calmB Tryz.f94 0=true:=by kernel_rfl
def s95L0:SC:=(⟨_,by cbv⟩:{x//slB kf6 Tryz.f95.body [] 0=x}).1
def s95:SC:=(⟨_,fun a=>by cbv⟩:{x:SC→SC//∀a,slW kf6 Tryz.f95.body [a]=x a}).1 s95L0
theorem sl95:slimK Tryz.f95.body s95=some (unK s95,true):=by kernel_rfl
theorem ok95:fnOK calmB Tryz.f95 0=true:=by kernel_rfl
def s105:SC:=(⟨_,by cbv⟩:{x//slW kf6 Tryz.f105.body []=x}).1
theorem sl105:slimK Tryz.f105.body s105=some (unK s105,true):=by kernel_rfl
theorem ok105:fnOK calmB Tryz.f105 0=true:=by kernel_rfl
def s107:SC:=(⟨_,by cbv⟩:{x//slW kf6 Tryz.f107.body []=x}).1
theorem sl107:slimK Tryz.f107.body s107=some (unK s107,true):=by kernel_rfl
theorem ok107:fnOK calmB Tryz.f107 0=true:=by kernel_rfl
attribute [simp] Tryz.results6 Tryz.results10 Tryz.results11 Tryz.results23 Tryz.results24 Tryz.results27 Tryz.results29 Tryz.results32 Tryz.results33 Tryz.results36 Tryz.results39 Tryz.results40 Tryz.results41 Tryz.results43 Tryz.results45 Tryz.results51 Tryz.results55 Tryz.results56 Tryz.results57 Tryz.results58 Tryz.results59 Tryz.results61 Tryz.results62 Tryz.results63 Tryz.results65 Tryz.results67 Tryz.results68 Tryz.results69 Tryz.results70 Tryz.results71 Tryz.results78 Tryz.results79 Tryz.results94 Tryz.results95 Tryz.results105 Tryz.results107
end Go.AE
set_option linter.unusedVariables false
set_option linter.unusedSimpArgs false
namespace Go.AE
open Go
variable {P:Program} {F:CT} {d:Bool} {dst:Option Nat} {st:St} {K:St→Prop}
def wd {α:Type} (x:α):α:=x
@[simp] theorem wd_go {α:Type} {x:α}:wd x=x:=rfl
def onV (v:AV) (k:AV→Prop):Prop:=k v
@[simp] theorem onV_go {v:AV} {k:AV→Prop}:onV v k=k v:=rfl
@[congr] theorem onV_cg {v v':AV} {k:AV→Prop} (h:v=v'):onV v k=onV v' k:=by rw [h]
def onN (H:Heap) (T:Nat) (rows:List (List AC)) (c:AC) (k:Heap→Nat→List (List AC)→AC→Prop):Prop:=k H T rows c
@[simp] theorem onN_go {H:Heap} {T:Nat} {rows:List (List AC)} {c:AC} {k:Heap→Nat→List (List AC)→AC→Prop}:onN H T rows c k=k H T rows c:=rfl
@[congr] theorem onN_cg {H H':Heap} {T T':Nat} {rows rows':List (List AC)} {c c':AC} {k:Heap→Nat→List (List AC)→AC→Prop} (h1:H=H') (h2:T=T') (h3:rows=rows') (h4:c=c'):onN H T rows c k=onN H' T' rows' c' k:=by rw [h1,h2,h3,h4]
def onA (H:Heap) (v:AV) (k:Heap→AV→Prop):Prop:=k H v
@[simp] theorem onA_go {H:Heap} {v:AV} {k:Heap→AV→Prop}:onA H v k=k H v:=rfl
@[congr] theorem onA_cg {H H':Heap} {v v':AV} {k:Heap→AV→Prop} (h1:H=H') (h2:v=v'):onA H v k=onA H' v' k:=by rw [h1,h2]
theorem acall_pure {dr:Bool} {st:St} {dst:Option Nat} {f:FuncId} {args args':List AV} {ret:AV} {K:St→Prop} (hp:PEv P f args' ret) (hv:viewA st.H args=some args')
  (hun:adUn (nmOf st dst) st.H 0 ret.flat) (hdr:dr=true→ret.flat.length≤1024∧dst.isSome=true) (hk:onA (wd (adH (nmOf st dst) 0 ret.flat st.H)) (ret.ad (nmOf st dst)) fun H v=>K ((st.hto H).put dst v)):ACall P dr st dst f args K:=.inl ⟨false,args',ret,hv,hp,hun,hdr,hk⟩
theorem acall_prom {dr:Bool} {st:St} {dst:Option Nat} {f:FuncId} {args args':List AV} {ret:AV} {K:St→Prop} (hv:viewA st.H args=some args') (hp:PEv P f (promA true args args') ret)
  (hun:adUn (nmOf st dst) st.H 0 ret.flat) (hdr:dr=true→ret.flat.length≤1024∧dst.isSome=true) (hk:onA (wd (adH (nmOf st dst) 0 ret.flat st.H)) (ret.ad (nmOf st dst)) fun H v=>K ((st.hto H).put dst v)):ACall P dr st dst f args K:=.inl ⟨true,args',ret,hv,hp,hun,hdr,hk⟩
theorem newObj_gon (st:St) (d e sz:Nat) (rows:List (List AC)) (v:Id→AC) (K:St→Prop) :
  newObj st (some d) e sz rows v K=onN (wd st.H) st.T rows (v (st.T,d)) fun H T rows c=>H (T,d)=.unborn∧K ((st.hto (hset H (T,d) (.arr e sz false rows))).put (some d) (.c c)):=rfl
theorem go_move {x:Operand}:stepS P F d dst (.move x) st K=onV (st.eval x) fun v=>K (st.put dst v):=rfl
theorem go_assign {x:Operand}:stepS P F d dst (.assign x) st K=onV (st.eval x) fun v=>K (st.put dst v):=rfl
def onB (v:AV) (k:Bool→Prop):Prop:=
 match v with
 |.c (.raw (.bool q))=>k q
 |_=>False
def onP {α:Type} (o:Option (Prop×α)) (k:α→Prop):Prop:=
 match o with
 |some (C,v)=>C∧k v
 |none=>False
@[simp] theorem onB_go {q:Bool} {k:Bool→Prop}:onB (.c (.raw (.bool q))) k=k q:=rfl
@[simp] theorem onP_go {α:Type} {C:Prop} {v:α} {k:α→Prop}:onP (some (C,v)) k=(C∧k v):=rfl
@[simp] theorem onP_none {α:Type} {k:α→Prop}:onP none k=False:=rfl
@[congr] theorem onB_cg {v v':AV} {k:Bool→Prop} (h:v=v'):onB v k=onB v' k:=by rw [h]
@[congr] theorem onP_cg {α:Type} {o o':Option (Prop×α)} {k:α→Prop} (h:o=o'):onP o k=onP o' k:=by rw [h]
def onIf (b:Bool) (y n:Prop):Prop:=(b=true→y)∧(b=false→n)
def onUn (b:Bool) (y n:Prop):Prop:=(b=false→y)∧(b=true→n)
@[congr] theorem onIf_cg {b b':Bool} {y n:Prop} (h:b=b'):onIf b y n=onIf b' y n:=by rw [h]
@[congr] theorem onUn_cg {b b':Bool} {y n:Prop} (h:b=b'):onUn b y n=onUn b' y n:=by rw [h]
@[simp high,simp ↓] theorem onIf_true {y n:Prop}:onIf true y n=y:=by simp [onIf]
@[simp high,simp ↓] theorem onIf_false {y n:Prop}:onIf false y n=n:=by simp [onIf]
@[simp high,simp ↓] theorem onUn_true {y n:Prop}:onUn true y n=n:=by simp [onUn]
@[simp high,simp ↓] theorem onUn_false {y n:Prop}:onUn false y n=y:=by simp [onUn]
@[simp low] theorem onIf_go {b:Bool} {y n:Prop}:onIf b y n=((b=true→y)∧(b=false→n)):=rfl
@[simp low] theorem onUn_go {b:Bool} {y n:Prop}:onUn b y n=((b=false→y)∧(b=true→n)):=rfl
theorem onB_eq {v:AV} {k:Bool→Prop}:(match v with|.c (.raw (.bool q))=>k q|_=>False)=onB v k:=rfl
theorem go_pick {c a b:Operand}:stepS P F d dst (.pick c a b) st K=onB (st.eval c) fun q=>onIf q (onV (st.eval a) fun v=>K (st.put dst v)) (onV (st.eval b) fun v=>K (st.put dst v)):=rfl
theorem go_not {t:TypeId} {x:Operand}:stepS P F d dst (.unOp .not t x) st K=onB (st.eval x) fun q=>K (st.put dst (.c (.raw (.bool (!q))))):=rfl
theorem go_cond {c:Operand} {x y:SC} {Q:AEx→St→Prop}:awpS P F (.cond c x y) Q st=onB (st.eval c) fun b=>onIf b (awpS P F x Q st) (awpS P F y Q st):=rfl
theorem go_alloc {e:TypeId}:stepS P F d dst (.alloc e) st K=((tyI P e).ok=true∧newObj st dst e (tyI P e).sz [(tyI P e).zero.map ofVal] (fun id=>.pt id 0 0) K):=rfl
def rBox (ti:TyI) (H:Heap) (v:AV):Option (Prop×List (List AC)):=
 match v.cells with
 |some cs=>some (ti.ok=true∧cs.length=ti.sz∧cs.all (AC.one H)=true,[cs])
 |none=>none
theorem go_box {e:TypeId} {x:Operand}:stepS P F d dst (.box e x) st K=onP (rBox (tyI P e) st.H (st.eval x)) fun rows=>newObj st dst e (tyI P e).sz rows (fun id=>.pt id 0 0) K:=by
 simp only [stepS,aop,rBox]
 cases (st.eval x).cells with
 |none=>rfl
 |some cs=>simp only [onP_go,and_assoc]
def rBuild (ti:TyI) (o:Option (List AC)):Option (Prop×AV):=o.map fun cs=>(ti.ok=true∧ti.bld=true,.g cs)
theorem go_build {t:TypeId} {parts:Array (Nat×Operand)}:stepS P F d dst (.build t parts) st K=onP (rBuild (tyI P t) (fillP st.H (tyI P t).offs ((tyI P t).zero.map ofVal) (parts.toList.map fun q=>(q.1,st.eval q.2)))) fun v=>K (st.put dst v):=by
 simp only [stepS,aop,rBuild]
 split
 ·rename_i h;rw [h];rfl
 ·rename_i h;rw [h];rfl
def rRows (ti te:TyI) (len:Nat) (o:Option (List (List AC))):Option (Prop×List (List AC)):=o.map fun rows=>(ti.form=2∧te.ok=true∧rows.length=len∧len*te.sz≤16777216∧0<te.sz,rows)
theorem go_buildSlice {t:TypeId} {len:Nat} {parts:Array (Nat×Operand)}:stepS P F d dst (.buildSlice t len parts) st K=onP (rRows (tyI P t) (tyI P (tyI P t).elem) len (rowsP st.H (tyI P (tyI P t).elem).sz 0 (parts.toList.map fun q=>(q.1,st.eval q.2)))) fun rows=>newObj st dst (tyI P t).elem (tyI P (tyI P t).elem).sz rows (fun id=>.so id 0 len) K:=by
 simp only [stepS,aop,rRows]
 split
 ·rename_i h;rw [h];rfl
 ·rename_i h;rw [h];rfl
def rRead (ti:TyI) (row:Option (List AC)) (j:Nat):Option (Prop×AV):=
 match row with
 |some row=>(rdRow ti.ag ti.sz row j).map fun v=>(ti.ok=true,v)
 |none=>none
def rObj (H:Heap) (id:Id) (i:Nat):Option (List AC):=
 match H id with
 |.arr _ _ _ rows=>rows[i]?
 |_=>none
def rLoad (ti:TyI) (H:Heap) (v:AV):Option (Prop×AV):=
 match v with
 |.c (.pt id i j)=>rRead ti (rObj H id i) j
 |.c (.pv _ row j)=>rRead ti (some row) j
 |_=>none
theorem go_load {t:TypeId} {x:Operand}:stepS P F d dst (.load t x) st K=onP (rLoad (tyI P t) st.H (st.eval x)) fun v=>K (st.put dst v):=by
 simp only [stepS,aop]
 generalize st.eval x=v
 cases v with
 |c y=>
  cases y with
  |pt id i j=>
   simp only [rLoad,rRead,rObj]
   cases st.H id with
   |arr e sz frz rows=>
    simp only
    cases rows[i]? with
    |none=>rfl
    |some row=>
     simp only
     cases rdRow (tyI P t).ag (tyI P t).sz row j<;>rfl
   |_=>rfl
  |pv tg row j=>
   simp only [rLoad,rRead]
   cases rdRow (tyI P t).ag (tyI P t).sz row j<;>rfl
  |_=>rfl
 |_=>rfl
def rStore (ti:TyI) (H:Heap) (x v:AV):Option (Prop×Heap):=
 match x,v.cells with
 |.c (.pt id i j),some cs=>match H id with
  |.arr e sz false rows=>match rows[i]? with
   |some row=>some (ti.ok=true∧cs.length=ti.sz∧cs.all (AC.one H)=true∧j+cs.length≤row.length,hset H id (.arr e sz false (rows.set i (lay row j cs))))
   |none=>none
  |_=>none
 |_,_=>none
theorem go_store {t:TypeId} {x v:Operand}:stepS P F d dst (.store t x v) st K=onP (rStore (tyI P t) st.H (st.eval x) (st.eval v)) fun H=>K ((st.hto H).put dst (.c (.raw undef))):=by
 simp only [stepS,aop]
 generalize st.eval x=u
 generalize st.eval v=q
 unfold rStore
 cases q.cells with
 |none=>cases u with
  |c y=>cases y<;>rfl
  |_=>rfl
 |some cs=>cases u with
  |c y=>cases y with
   |pt id i j=>
    simp only
    cases st.H id with
    |arr e sz frz rows=>
     cases frz with
     |true=>rfl
     |false=>
      simp only
      cases rows[i]?<;>rfl
    |_=>rfl
   |_=>rfl
  |_=>rfl
def rNil (H:Heap) (v:AV):Option (Prop×AV):=
 match v with
 |.c (.pt id i j)=>some ((H id).live=true,.c (.pt id i j))
 |_=>none
theorem go_nilCheck {x:Operand}:stepS P F d dst (.nilCheck x) st K=onP (rNil st.H (st.eval x)) fun v=>K (st.put dst v):=by
 simp only [stepS,aop]
 generalize st.eval x=v
 cases v with
 |c y=>cases y<;>rfl
 |_=>rfl
theorem go_binOp {op:BinOp} {t t':TypeId} {x y:Operand} (hy:isNilC y=false):stepS P F d dst (.binOp op t x y t') st K=onP (abin (tyI P t) op (st.eval x) (st.eval y)) fun c=>K (st.put dst (.c c)):=by
 simp only [stepS,hy,Bool.false_eq_true,if_false,aop]
 cases abin (tyI P t) op (st.eval x) (st.eval y)<;>rfl
theorem go_bin_t {op:BinOp} {t t':TypeId} {x:Operand} {y:Nat}:stepS P F d dst (.binOp op t x (.tmp y) t') st K=onP (abin (tyI P t) op (st.eval x) (st.eval (.tmp y))) fun c=>K (st.put dst (.c c)):=go_binOp rfl
theorem go_bin_i {op:BinOp} {t t':TypeId} {x:Operand} {k:IntKind} {n:Int}:stepS P F d dst (.binOp op t x (.const (.int k n)) t') st K=onP (abin (tyI P t) op (st.eval x) (.c (.raw (.int k n)))) fun c=>K (st.put dst (.c c)):=go_binOp rfl
theorem go_bin_b {op:BinOp} {t t':TypeId} {x:Operand} {q:Bool}:stepS P F d dst (.binOp op t x (.const (.bool q)) t') st K=onP (abin (tyI P t) op (st.eval x) (.c (.raw (.bool q)))) fun c=>K (st.put dst (.c c)):=go_binOp rfl
theorem go_bin_s {op:BinOp} {t t':TypeId} {x:Operand} {s:ByteArray}:stepS P F d dst (.binOp op t x (.const (.string s)) t') st K=onP (abin (tyI P t) op (st.eval x) (.c (.str s.data.toList))) fun c=>K (st.put dst (.c c)):=go_binOp rfl
def onNil (ti:TyI) (op:BinOp) (d:Bool) (v:AV) (k:Bool→Prop):Prop:=
 match op,v with
 |.eql,.c (.sl _ _ xs)=>d=false∧ti.form=2∧(xs=[]→k true)∧k false
 |.neq,.c (.sl _ _ xs)=>d=false∧ti.form=2∧(xs=[]→k false)∧k true
 |_,_=>False
@[congr] theorem onNil_cg {ti:TyI} {op:BinOp} {v v':AV} {k:Bool→Prop} (h:v=v'):onNil ti op d v k=onNil ti op d v' k:=by rw [h]
@[simp] theorem onNil_eql {ti:TyI} {t:Tag} {cl:Bool} {xs:List (List AC)} {k:Bool→Prop}:onNil ti .eql d (.c (.sl t cl xs)) k=(d=false∧ti.form=2∧(xs=[]→k true)∧k false):=rfl
@[simp] theorem onNil_neq {ti:TyI} {t:Tag} {cl:Bool} {xs:List (List AC)} {k:Bool→Prop}:onNil ti .neq d (.c (.sl t cl xs)) k=(d=false∧ti.form=2∧(xs=[]→k false)∧k true):=rfl
theorem go_bin_nil {op:BinOp} {t t':TypeId} {x:Operand}:stepS P F d dst (.binOp op t x (.const (.slice none 0 0)) t') st K=onNil (tyI P t) op d (st.eval x) fun q=>K (st.put dst (.c (.raw (.bool q)))):=by
 simp only [stepS,isNilC,if_true,ev_const,ofVal]
 generalize st.eval x=v
 unfold aNil onNil
 cases op<;>(try (simp;done))
 all_goals
  cases v with
  |c y=>cases y<;>simp
  |_=>simp
def rConv (ts ti te:TyI) (H:Heap) (v:AV):Option (Prop×AV):=
 match v with
 |.c (.raw (.int _ n))=>ti.kind.map fun k=>(ts.form=3,.c (.raw (.int k (k.wrap n))))
 |.c (.str l)=>some (ts.form=1∧ti.form=1,.c (.str l))
 |.c x=>((rowsOf H x).bind bytesAC).map fun l=>(ts.form=2∧ti.form=1∧te.kind=some .u8,.c (.str l))
 |_=>none
def convK (ts ti te tf:TyI) (e:Nat) (st:St) (dst:Option Nat) (v:AV) (K:St→Prop):Prop:=
 match v with
 |.c (.str l)=>if ti.form=2 then (ts.form=1∧tf.kind=some .u8∧l.length≤9223372036854775807)∧newObj st dst e 1 (l.map fun b=>[.raw (.int .u8 (b.toNat:Int))]) (fun id=>.so id 0 l.length) K
  else (ts.form=1∧ti.form=1)∧K (st.put dst (.c (.str l)))
 |v=>onP (rConv ts ti te st.H v) fun v=>K (st.put dst v)
theorem convK_cg {ts ti te tf:TyI} {e:Nat} {st st':St} {dst:Option Nat} {v v':AV} {K:St→Prop} (hs:st=st') (hv:v=v'):convK ts ti te tf e st dst v K=convK ts ti te tf e st' dst v' K:=by rw [hs,hv]
theorem convK_str {ts ti te tf:TyI} {e:Nat} {st:St} {dst:Option Nat} {l:List UInt8} {K:St→Prop}:convK ts ti te tf e st dst (.c (.str l)) K=if ti.form=2 then (ts.form=1∧tf.kind=some .u8∧l.length≤9223372036854775807)∧newObj st dst e 1 (l.map fun b=>[.raw (.int .u8 (b.toNat:Int))]) (fun id=>.so id 0 l.length) K
  else (ts.form=1∧ti.form=1)∧K (st.put dst (.c (.str l))):=rfl
theorem convK_raw {ts ti te tf:TyI} {e:Nat} {st:St} {dst:Option Nat} {u:Value} {K:St→Prop}:convK ts ti te tf e st dst (.c (.raw u)) K=onP (rConv ts ti te st.H (.c (.raw u))) fun v=>K (st.put dst v):=rfl
theorem convK_so {ts ti te tf:TyI} {e:Nat} {st:St} {dst:Option Nat} {id:Id} {off len:Nat} {K:St→Prop}:convK ts ti te tf e st dst (.c (.so id off len)) K=onP (rConv ts ti te st.H (.c (.so id off len))) fun v=>K (st.put dst v):=rfl
theorem convK_sl {ts ti te tf:TyI} {e:Nat} {st:St} {dst:Option Nat} {tg:Tag} {cl:Bool} {xs:List (List AC)} {K:St→Prop}:convK ts ti te tf e st dst (.c (.sl tg cl xs)) K=onP (rConv ts ti te st.H (.c (.sl tg cl xs))) fun v=>K (st.put dst v):=rfl
theorem go_convert {src t:TypeId} {x:Operand}:stepS P F d dst (.convert src t x) st K=convK (tyI P src) (tyI P t) (tyI P (tyI P src).elem) (tyI P (tyI P t).elem) (tyI P t).elem st dst (st.eval x) K:=by
 simp only [stepS,aop]
 generalize st.eval x=v
 cases v with
 |c y=>
  cases y with
  |str l=>rfl
  |raw u=>
   cases u with
   |int k n=>
    simp only [convK,rConv]
    cases (tyI P t).kind<;>rfl
   |_=>
    simp only [convK,rConv]
    generalize (Option.bind (rowsOf st.H _) bytesAC)=o
    cases o<;>rfl
  |_=>
   simp only [convK,rConv]
   generalize (Option.bind (rowsOf st.H _) bytesAC)=o
   cases o<;>rfl
 |_=>rfl
def rFn (first:Array Operand) (f:FuncId) (o:Option (List AC)):Option (Prop×AV):=o.map fun cs=>(first=#[],.c (.fn f cs))
theorem go_makeFunc {f:FuncId} {first caps:Array Operand}:stepS P F d dst (.makeFunc (.func f) first caps) st K=onP (rFn first f (capsOf st caps.toList)) fun v=>K (st.put dst v):=by
 simp only [stepS,aop,rFn]
 split
 ·rename_i h;rw [h];rfl
 ·rename_i h;rw [h];rfl
def rMake (ti te:TyI) (l c:AV):Option (Prop×Nat):=
 match l,c with
 |.c (.raw (.int .i64 n)),.c (.raw (.int .i64 m))=>some (n=m∧0≤n∧n≤9223372036854775807∧n*te.bytes≤281474976710656∧ti.form=2∧te.ok=true∧0<te.sz,n.toNat)
 |_,_=>none
theorem go_makeSlice {t:TypeId} {l c:Operand}:stepS P F d dst (.makeSlice t l c) st K=onP (rMake (tyI P t) (tyI P (tyI P t).elem) (st.eval l) (st.eval c)) fun n=>newObj st dst (tyI P t).elem (tyI P (tyI P t).elem).sz (List.replicate n ((tyI P (tyI P t).elem).zero.map ofVal)) (fun id=>.so id 0 n) K:=by
 simp only [stepS,aop]
 generalize st.eval l=v
 generalize st.eval c=u
 unfold rMake
 split
 ·rfl
 ·rename_i n
  split
  ·exact (n _ _ rfl rfl).elim
  ·rfl
def rFieldA (ti:TyI) (H:Heap) (f:Nat) (v:AV):Option (Prop×AV):=
 match v,ti.offs[f]? with
 |.c (.pt id i j),some (off,n,_)=>some ((ti.form=5∧0<n)∧(H id).live=true,.c (.pt id i (j+off)))
 |.c (.pv tg row j),some (off,n,_)=>some (ti.form=5∧0<n,.c (.pv tg row (j+off)))
 |_,_=>none
theorem go_fieldAddr {t:TypeId} {x:Operand} {f:Nat}:stepS P F d dst (.fieldAddr t x f) st K=onP (rFieldA (tyI P t) st.H f (st.eval x)) fun v=>K (st.put dst v):=by
 simp only [stepS,aop]
 generalize st.eval x=v
 generalize hq:(tyI P t).offs[f]?=q
 unfold rFieldA
 rw [hq]
 split
 ·simp only [onP_go,and_assoc]
 ·rfl
 ·rename_i n1 n2
  split
  ·exact (n1 _ _ _ _ _ _ rfl rfl).elim
  ·exact (n2 _ _ _ _ _ _ rfl rfl).elim
  ·rfl
def rField (ti:TyI) (f:Nat) (v:AV):Option (Prop×AV):=
 match v,ti.offs[f]? with
 |.g xs,some (off,n,ag)=>(rdRow ag n xs off).map fun v=>(ti.form=5∧0<n,v)
 |_,_=>none
theorem go_field {t:TypeId} {x:Operand} {f:Nat}:stepS P F d dst (.field t x f) st K=onP (rField (tyI P t) f (st.eval x)) fun v=>K (st.put dst v):=by
 simp only [stepS,aop]
 generalize st.eval x=v
 unfold rField
 cases hq:(tyI P t).offs[f]? with
 |none=>cases v<;>rfl
 |some q=>
  obtain ⟨off,n,ag⟩:=q
  cases v with
  |g xs=>
   simp only
   cases rdRow ag n xs off<;>rfl
  |_=>rfl
def rIndexA (ti te:TyI) (eid:TypeId) (H:Heap) (x ix:AV):Option (Prop×AV):=
 match x,ix with
 |.c (.sl tg _ xs),.c (.raw (.int _ i))=>some ((ti.form=2∧te.ok=true∧te.sz=(xs.getD i.toNat []).length)∧0≤i∧i<xs.length,.c (.pv tg (xs.getD i.toNat []) 0))
 |.c (.so id off len),.c (.raw (.int _ i))=>some ((ti.form=2∧te.ok=true∧∃frz rows,H id=.arr eid te.sz frz rows)∧0≤i∧i<len,.c (.pt id (off+i.toNat) 0))
 |_,_=>none
theorem go_indexAddr {t:TypeId} {x ix:Operand}:stepS P F d dst (.indexAddr t x ix) st K=onP (rIndexA (tyI P t) (tyI P (tyI P t).elem) (tyI P t).elem st.H (st.eval x) (st.eval ix)) fun v=>K (st.put dst v):=by
 simp only [stepS,aop]
 generalize st.eval x=v
 generalize st.eval ix=u
 unfold rIndexA
 split
 ·rfl
 ·rfl
 ·rename_i n1 n2
  split
  ·exact (n1 _ _ _ _ _ rfl rfl).elim
  ·exact (n2 _ _ _ _ _ rfl rfl).elim
  ·rfl
def rIndex (ti:TyI) (x ix:AV):Option (Prop×AV):=
 match x,ix with
 |.c (.str l),.c (.raw (.int _ i))=>some (ti.form=1∧0≤i∧i<l.length,.c (.raw (.int .u8 (bts l i))))
 |_,_=>none
theorem go_index {t:TypeId} {x ix:Operand}:stepS P F d dst (.index t x ix) st K=onP (rIndex (tyI P t) (st.eval x) (st.eval ix)) fun v=>K (st.put dst v):=by
 simp only [stepS,aop]
 generalize st.eval x=v
 generalize st.eval ix=u
 unfold rIndex
 split
 ·rfl
 ·rename_i n
  split
  ·exact (n _ _ _ rfl rfl).elim
  ·rfl
def rExtract (i:Nat) (v:AV):Option (Prop×AV):=
 match v with
 |.t parts=>match parts[i]? with
  |some (true,cs)=>some (True,.g cs)
  |some (false,[c])=>some (True,.c c)
  |_=>none
 |_=>none
theorem go_extract {x:Operand} {i:Nat}:stepS P F d dst (.extract x i) st K=onP (rExtract i (st.eval x)) fun v=>K (st.put dst v):=by
 simp only [stepS,aop]
 generalize st.eval x=v
 unfold rExtract
 cases v with
 |t parts=>
  simp only
  cases parts[i]? with
  |none=>rfl
  |some q=>
   obtain ⟨b,cs⟩:=q
   cases b with
   |true=>simp
   |false=>
    cases cs with
    |nil=>rfl
    |cons c cs=>cases cs<;>simp
 |_=>rfl
def rSlice (ti te:TyI) (eid:TypeId) (H:Heap) (x:AV) (lo hi mx:Option AV):Option (Prop×AV):=
 match x with
 |.c (.str l)=>
  match lo.getD (.c (.raw (.int .i64 0))),hi.getD (.c (.raw (.int .i64 l.length))) with
  |.c (.raw (.int _ i)),.c (.raw (.int _ j))=>some (ti.form=1∧mx.isNone=true∧0≤i∧i≤j∧j≤l.length,.c (.str ((l.take j.toNat).drop i.toNat)))
  |_,_=>none
 |.c (.sl tg _ xs)=>
  match lo.getD (.c (.raw (.int .i64 0))),hi.getD (.c (.raw (.int .i64 xs.length))),mx with
  |.c (.raw (.int _ i)),.c (.raw (.int _ j)),none=>some (ti.form=2∧te.ok=true∧(∀r∈xs,r.length=te.sz)∧0≤i∧i≤j∧j≤xs.length,.c (.sl tg false ((xs.take j.toNat).drop i.toNat)))
  |.c (.raw (.int _ i)),.c (.raw (.int _ j)),some (.c (.raw (.int _ m)))=>some (ti.form=2∧te.ok=true∧(∀r∈xs,r.length=te.sz)∧0≤i∧i≤j∧j=m∧m≤xs.length∧hi.isSome=true,.c (.sl tg true ((xs.take j.toNat).drop i.toNat)))
  |_,_,_=>none
 |.c (.so id off len)=>
  match lo.getD (.c (.raw (.int .i64 0))),hi.getD (.c (.raw (.int .i64 len))),mx with
  |.c (.raw (.int _ i)),.c (.raw (.int _ j)),none=>some (ti.form=2∧te.ok=true∧(∃sz frz rows,H id=.arr eid sz frz rows∧sz=te.sz)∧0≤i∧i≤j∧j≤len,.c (.so id (off+i.toNat) (j.toNat-i.toNat)))
  |_,_,_=>none
 |_=>none
theorem go_slice {t:TypeId} {x:Operand} {lo hi mx:Option Operand}:stepS P F d dst (.slice t x lo hi mx) st K=onP (rSlice (tyI P t) (tyI P (tyI P t).elem) (tyI P t).elem st.H (st.eval x) (lo.map st.eval) (hi.map st.eval) (mx.map st.eval)) fun v=>K (st.put dst v):=by
 have e1:(mx.map st.eval).isNone=mx.isNone:=by cases mx<;>rfl
 have e2:(hi.map st.eval).isSome=hi.isSome:=by cases hi<;>rfl
 have e3:mx.map st.eval=none→True:=fun _=>trivial
 simp only [stepS,aop,rSlice,e1,e2]
 generalize st.eval x=v
 generalize lo.map st.eval=l
 generalize hi.map st.eval=h
 generalize mx.map st.eval=m
 cases v with
 |c y=>
  cases y with
  |str s=>
   simp only
   generalize l.getD _=p
   generalize h.getD _=q
   cases p<;>(try rfl)
   rename_i p
   cases p<;>(try rfl)
   rename_i p
   cases p<;>(try rfl)
   cases q<;>(try rfl)
   rename_i q
   cases q<;>(try rfl)
   rename_i q
   cases q<;>rfl
  |sl tg cl xs=>
   simp only
   generalize l.getD _=p
   generalize h.getD _=q
   cases p<;>(try rfl)
   rename_i p
   cases p<;>(try rfl)
   rename_i p
   cases p<;>(try rfl)
   cases q<;>(try rfl)
   rename_i q
   cases q<;>(try rfl)
   rename_i q
   cases q<;>(try rfl)
   cases m<;>(try rfl)
   rename_i m
   cases m<;>(try rfl)
   rename_i m
   cases m<;>(try rfl)
   rename_i m
   cases m<;>rfl
  |so id off len=>
   simp only
   generalize l.getD _=p
   generalize h.getD _=q
   cases p<;>(try rfl)
   rename_i p
   cases p<;>(try rfl)
   rename_i p
   cases p<;>(try rfl)
   cases q<;>(try rfl)
   rename_i q
   cases q<;>(try rfl)
   rename_i q
   cases q<;>(try rfl)
   cases m<;>rfl
  |_=>rfl
 |_=>rfl
def onFn (v:AV) (k:FuncId→List AC→Prop):Prop:=
 match v with
 |.c (.fn g caps)=>k g caps
 |_=>False
@[simp] theorem onFn_go {g:FuncId} {caps:List AC} {k:FuncId→List AC→Prop}:onFn (.c (.fn g caps)) k=k g caps:=rfl
@[congr] theorem onFn_cg {v v':AV} {k:FuncId→List AC→Prop} (h:v=v'):onFn v k=onFn v' k:=by rw [h]
theorem go_call {f:Operand} {args:Array Operand} {ts:Array TypeId}:stepS P F d dst (.call {callee:=.value f,args:=args,argTypes:=ts}) st K=onFn (st.eval f) fun g caps=>CallS P F d st dst g (args.toList.map st.eval++caps.map .c) K:=by
 simp only [stepS]
 generalize st.eval f=v
 cases v with
 |c y=>cases y<;>rfl
 |_=>rfl
theorem go_builtin {b:Builtin} {args:Array Operand} {ts:Array TypeId}:stepS P F d dst (.call {callee:=.builtin b,args:=args,argTypes:=ts}) st K=abi P dst b args.toList ts.toList st K:=rfl
def rLen (ti:TyI) (H:Heap) (v:AV):Option (Prop×AV):=
 match v with
 |.c (.str l)=>some (ti.form=1,.c (.raw (.int .i64 l.length)))
 |.c (.so id _ len)=>some (ti.form=2∧(H id).live=true,.c (.raw (.int .i64 len)))
 |.c (.sl _ _ xs)=>some (ti.form=2,.c (.raw (.int .i64 xs.length)))
 |.c (.raw (.slice none 0 0))=>some (ti.form=2,.c (.raw (.int .i64 0)))
 |_=>none
theorem go_len {x:Operand} {t:TypeId}:abi P dst .len [x] [t] st K=onP (rLen (tyI P t) st.H (st.eval x)) fun v=>K (st.put dst v):=by
 simp only [abi]
 generalize st.eval x=v
 unfold rLen
 split
 ·rfl
 ·rfl
 ·rfl
 ·rfl
 ·rename_i n1 n2 n3 n4
  split
  ·exact (n1 _ rfl).elim
  ·exact (n2 _ _ _ rfl).elim
  ·exact (n3 _ _ _ rfl).elim
  ·exact (n4 rfl).elim
  ·rfl
def onE (g:Option Ent) (H:Heap) (args:List AV) (fall:Prop) (k:AV→Prop) (m:List (Id×OK)→AV→Prop):Prop:=
 match g with
 |some (.pu h)=>onP ((viewA H args).bind h) k
 |some (.mu h)=>onP (h H args) fun r=>m r.1 r.2
 |none=>fall
@[simp] theorem onE_pu {H:Heap} {args:List AV} {h:List AV→Option (Prop×AV)} {fall:Prop} {k:AV→Prop} {m:List (Id×OK)→AV→Prop}:onE (some (.pu h)) H args fall k m=onP ((viewA H args).bind h) k:=rfl
@[simp] theorem onE_mu {H:Heap} {args:List AV} {h:MH} {fall:Prop} {k:AV→Prop} {m:List (Id×OK)→AV→Prop}:onE (some (.mu h)) H args fall k m=onP (h H args) fun r=>m r.1 r.2:=rfl
@[simp] theorem onE_none {H:Heap} {args:List AV} {fall:Prop} {k:AV→Prop} {m:List (Id×OK)→AV→Prop}:onE none H args fall k m=fall:=rfl
@[congr] theorem onE_cg {g g':Option Ent} {H:Heap} {args:List AV} {fall:Prop} {k:AV→Prop} {m:List (Id×OK)→AV→Prop} (h:g=g'):onE g H args fall k m=onE g' H args fall k m:=by rw [h]
theorem go_callS {f:FuncId} {args:List AV}:CallS P F d st dst f args K =
  onE (ctGet F f) st.H args (ACall P d st dst f args K)
   (fun ret=>adUn (nmOf st dst) st.H 0 ret.flat∧(d=true→ret.flat.length≤1024∧dst.isSome=true)∧onA (wd (adH (nmOf st dst) 0 ret.flat st.H)) (ret.ad (nmOf st dst)) fun H v=>K ((st.hto H).put dst v))
   fun us ret=>d=false∧adUn (nmOf st dst) st.H 0 ret.flat∧onA (wd (adH (nmOf st dst) 0 ret.flat (upH st.H us))) (ret.ad (nmOf st dst)) fun H v=>K ((st.hto H).put dst v):=by
 unfold CallS
 cases ctGet F f with
 |none=>rfl
 |some e=>
  cases e with
  |pu h=>
   simp only [onE_pu]
   cases viewA st.H args with
   |none=>rfl
   |some args'=>
    simp only [Option.bind_some]
    cases h args' with
    |none=>rfl
    |some q=>rfl
  |mu h=>
   simp only [onE_mu]
   cases h st.H args with
   |none=>rfl
   |some q=>rfl
def onD (g:Option Ent) (H:Heap) (args:List AV) (m:List (Id×OK)→AV→Prop):Prop:=
 match g with
 |some (.mu h)=>onP (h H args) fun r=>m r.1 r.2
 |_=>False
@[simp] theorem onD_mu {H:Heap} {args:List AV} {h:MH} {m:List (Id×OK)→AV→Prop}:onD (some (.mu h)) H args m=onP (h H args) fun r=>m r.1 r.2:=rfl
@[congr] theorem onD_cg {g g':Option Ent} {H:Heap} {args:List AV} {m:List (Id×OK)→AV→Prop} (h:g=g'):onD g H args m=onD g' H args m:=by rw [h]
theorem go_dstep {f:Operand} {args:Array Operand} {ts:Array TypeId} {K:List Id→St→Prop}:dstepS P F ⟨dst,.call {callee:=.value f,args:=args,argTypes:=ts},none⟩ st K =
  onFn (st.eval f) fun g caps=>onD (ctGet F g) st.H (args.toList.map st.eval++caps.map .c) fun us ret=>adUn (nmOf st dst) st.H 0 ret.flat∧(ret.flat.length≤1024∧dst.isSome=true)∧
   onA (wd (adH (nmOf st dst) 0 ret.flat (upH st.H us))) (ret.ad (nmOf st dst)) fun H v=>K (us.map (·.1)) ((st.hto H).put dst v):=by
 unfold dstepS onFn
 simp only
 generalize st.eval f=v
 cases v with
 |c x=>
  cases x with
  |fn g caps=>
   simp only
   cases ctGet F g with
   |none=>rfl
   |some e=>
    cases e with
    |pu h=>rfl
    |mu h=>
     simp only [onD_mu]
     cases h st.H _ with
     |none=>rfl
     |some q=>rfl
  |_=>rfl
 |_=>rfl
def onId (v:AV) (k:Id→Prop):Prop:=
 match v with
 |.c (.pt id _ _)=>k id
 |_=>False
@[simp] theorem onId_go {id:Id} {i j:Nat} {k:Id→Prop}:onId (.c (.pt id i j)) k=k id:=rfl
@[congr] theorem onId_cg {v v':AV} {k:Id→Prop} (h:v=v'):onId v k=onId v' k:=by rw [h]
theorem go_dstore {t:TypeId} {x v:Operand} {K:List Id→St→Prop}:dstepS P F ⟨dst,.store t x v,none⟩ st K=onId (st.eval x) fun id=>stepS P F true dst (.store t x v) st (K [id]):=by
 unfold dstepS onId
 simp only [stepS]
 generalize st.eval x=u
 cases u with
 |c c=>cases c<;>rfl
 |_=>rfl
theorem opsD_nil {js:List Nat} {prs:List (Nat×Nat)} {i:Nat} {W:List (Nat×Id)} {N:List (Nat×AV)} {K:List (Nat×Id)→List (Nat×AV)→St→Prop}:opsD P F js prs [] i W N K st=K W N st:=rfl
theorem opsD_cons {js:List Nat} {prs:List (Nat×Nat)} {i:Nat} {W:List (Nat×Id)} {N:List (Nat×AV)} {op:Op} {l:List SO} {K:List (Nat×Id)→List (Nat×AV)→St→Prop}:opsD P F js prs (⟨dst,op,none⟩::l) i W N K st =
  if js.contains i=true then dstepS P F ⟨dst,op,none⟩ st fun W' st'=>opsD P F js prs l (i+1) (W'.map (fun id=>(i,id))++W) (if prs.any (·.2==i)=true then namedL i op st++N else N) K st'
  else stepS P F true dst op st (opsD P F js prs l (i+1) W (if prs.any (·.2==i)=true then namedL i op st++N else N) K):=rfl
theorem opsD_guard {js:List Nat} {prs:List (Nat×Nat)} {i:Nat} {W:List (Nat×Id)} {N:List (Nat×AV)} {op:Op} {l:List SO} {gs:Option Nat} {want:Bool} {K:List (Nat×Id)→List (Nat×AV)→St→Prop}:opsD P F js prs (⟨dst,op,some (gs,want)⟩::l) i W N K st =
  if js.contains i=true then False
  else agd gs want st (fun st'=>stepS P F true dst op st' (opsD P F js prs l (i+1) W (if prs.any (·.2==i)=true then namedL i op st++N else N) K))
     (fun st'=>opsD P F js prs l (i+1) W (if prs.any (·.2==i)=true then namedL i op st++N else N) K (st'.put dst (.c (.raw undef)))):=by
 rw [opsD]
 by_cases hj:js.contains i=true
 ·rw [if_pos hj,if_pos hj]
  unfold dstepS
  cases op<;>rfl
 ·rw [if_neg hj,if_neg hj]
theorem opsD_cg {js:List Nat} {prs:List (Nat×Nat)} {i:Nat} {W:List (Nat×Id)} {N:List (Nat×AV)} {l:List SO} {K:List (Nat×Id)→List (Nat×AV)→St→Prop} {st st':St} (h:st=st'):opsD P F js prs l i W N K st=opsD P F js prs l i W N K st':=by rw [h]
theorem dstepS_cg {o:SO} {K:List Id→St→Prop} {st st':St} (h:st=st'):dstepS P F o st K=dstepS P F o st' K:=by rw [h]
attribute [congr] opsD_cg dstepS_cg
attribute [simp ↓] go_dstep go_dstore opsD_nil opsD_cons opsD_guard
attribute [simp] namedL Op.operands
@[simp] theorem idV_c {id:Id} {c:AC}:idV id (.c c)↔idC id c:=by simp [idV,AV.flat]
@[simp] theorem idV_g {id:Id} {cs:List AC}:idV id (.g cs)↔∃c∈cs,idC id c:=by simp [idV,AV.flat]
@[simp] theorem idC_so {id i:Id} {off len:Nat}:idC id (.so i off len)↔id=i:=⟨(fun h=>by cases h;rfl),(fun h=>by subst h;constructor)⟩
@[simp] theorem idC_pt {id i:Id} {j k:Nat}:idC id (.pt i j k)↔id=i:=⟨(fun h=>by cases h;rfl),(fun h=>by subst h;constructor)⟩
@[simp] theorem idC_raw {id:Id} {v:Value}:idC id (.raw v)↔False:=⟨(fun h=>nomatch h),(fun h=>h.elim)⟩
@[simp] theorem idC_str {id:Id} {l:List UInt8}:idC id (.str l)↔False:=⟨(fun h=>nomatch h),(fun h=>h.elim)⟩
@[simp] theorem idC_sl {id:Id} {t:Tag} {cl:Bool} {xs:List (List AC)}:idC id (.sl t cl xs)↔False:=⟨(fun h=>nomatch h),(fun h=>h.elim)⟩
@[simp] theorem idC_pv {id:Id} {t:Tag} {row:List AC} {j:Nat}:idC id (.pv t row j)↔False:=⟨(fun h=>nomatch h),(fun h=>h.elim)⟩
attribute [simp] upH
section
variable {ti te ts:TyI} {H:Heap} {id:Id} {i j off len n eid:Nat} {row cs:List AC} {rows xs:List (List AC)} {tg:Tag} {cl:Bool} {c:AC} {k k' k'':IntKind} {a b m:Int} {l:List UInt8} {v:AV}
@[simp] theorem rBox_c:rBox ti H (.c c)=some (ti.ok=true∧1=ti.sz∧AC.one H c=true,[[c]]):=by simp [rBox,AV.cells]
@[simp] theorem rBox_g:rBox ti H (.g cs)=some (ti.ok=true∧cs.length=ti.sz∧cs.all (AC.one H)=true,[cs]):=rfl
@[simp] theorem rBuild_go:rBuild ti (some cs)=some (ti.ok=true∧ti.bld=true,.g cs):=rfl
@[simp] theorem rRows_go:rRows ti te n (some rows)=some (ti.form=2∧te.ok=true∧rows.length=n∧n*te.sz≤16777216∧0<te.sz,rows):=rfl
@[simp] theorem rRead_go:rRead ti (some row) j=(rdRow ti.ag ti.sz row j).map fun v=>(ti.ok=true,v):=rfl
@[simp] theorem rLoad_pt:rLoad ti H (.c (.pt id i j))=rRead ti (rObj H id i) j:=rfl
@[simp] theorem rLoad_pv:rLoad ti H (.c (.pv tg row j))=rRead ti (some row) j:=rfl
def rowAt (o:OK) (i:Nat):Option (List AC):=
 match o with
 |.arr _ _ _ rows=>rows[i]?
 |_=>none
@[simp] theorem rObj_go:rObj H id i=rowAt (H id) i:=rfl
@[simp] theorem rowAt_go {e sz:Nat} {f:Bool}:rowAt (.arr e sz f rows) i=rows[i]?:=rfl
def stAt (ti:TyI) (H:Heap) (id:Id) (i j:Nat) (cs:List AC) (o:OK):Option (Prop×Heap):=
 match o with
 |.arr e sz false rows=>match rows[i]? with
   |some row=>some (ti.ok=true∧cs.length=ti.sz∧cs.all (AC.one H)=true∧j+cs.length≤row.length,hset H id (.arr e sz false (rows.set i (lay row j cs))))
   |none=>none
 |_=>none
def stRow (ti:TyI) (H:Heap) (id:Id) (i j e sz:Nat) (cs:List AC) (rows:List (List AC)) (o:Option (List AC)):Option (Prop×Heap):=
 o.map fun row=>(ti.ok=true∧cs.length=ti.sz∧cs.all (AC.one H)=true∧j+cs.length≤row.length,hset H id (.arr e sz false (rows.set i (lay row j cs))))
@[simp] theorem rStore_c:rStore ti H (.c (.pt id i j)) (.c c)=stAt ti H id i j [c] (H id):=rfl
@[simp] theorem rStore_g:rStore ti H (.c (.pt id i j)) (.g cs)=stAt ti H id i j cs (H id):=rfl
@[simp] theorem stAt_go {e sz:Nat}:stAt ti H id i j cs (.arr e sz false rows)=stRow ti H id i j e sz cs rows rows[i]?:=by
 show (match rows[i]? with
   |some row=>some (ti.ok=true∧cs.length=ti.sz∧cs.all (AC.one H)=true∧j+cs.length≤row.length,hset H id (.arr e sz false (rows.set i (lay row j cs))))
   |none=>none)=_
 unfold stRow
 generalize rows[i]?=o
 cases o<;>rfl
@[simp] theorem stRow_go {e sz:Nat}:stRow ti H id i j e sz cs rows (some row)=some (ti.ok=true∧cs.length=ti.sz∧cs.all (AC.one H)=true∧j+cs.length≤row.length,hset H id (.arr e sz false (rows.set i (lay row j cs)))):=rfl
@[simp] theorem rNil_go:rNil H (.c (.pt id i j))=some ((H id).live=true,.c (.pt id i j)):=rfl
@[simp] theorem rConv_int:rConv ts ti te H (.c (.raw (.int k a)))=ti.kind.map fun k=>(ts.form=3,.c (.raw (.int k (k.wrap a)))):=rfl
@[simp] theorem rConv_str:rConv ts ti te H (.c (.str l))=some (ts.form=1∧ti.form=1,.c (.str l)):=rfl
@[simp] theorem rConv_so:rConv ts ti te H (.c (.so id off len))=((rowsOf H (.so id off len)).bind bytesAC).map fun l=>(ts.form=2∧ti.form=1∧te.kind=some .u8,.c (.str l)):=rfl
@[simp] theorem rConv_sl:rConv ts ti te H (.c (.sl tg cl xs))=(bytesAC xs).map fun l=>(ts.form=2∧ti.form=1∧te.kind=some .u8,.c (.str l)):=rfl
@[simp] theorem rFn_go {first:Array Operand} {f:FuncId}:rFn first f (some cs)=some (first=#[],.c (.fn f cs)):=rfl
@[simp] theorem rMake_go:rMake ti te (.c (.raw (.int .i64 a))) (.c (.raw (.int .i64 b)))=some (a=b∧0≤a∧a≤9223372036854775807∧a*te.bytes≤281474976710656∧ti.form=2∧te.ok=true∧0<te.sz,a.toNat):=rfl
def faAt (ti:TyI) (live:Bool) (tg:Id ⊕ Tag) (row:List AC) (i j:Nat) (o:Option (Nat×Nat×Bool)):Option (Prop×AV):=
 o.map fun q=>match tg with
  |.inl id=>((ti.form=5∧0<q.2.1)∧live=true,.c (.pt id i (j+q.1)))
  |.inr t=>(ti.form=5∧0<q.2.1,.c (.pv t row (j+q.1)))
@[simp] theorem rFieldA_pt {f:Nat}:rFieldA ti H f (.c (.pt id i j))=ti.offs[f]?.map fun q=>((ti.form=5∧0<q.2.1)∧(H id).live=true,.c (.pt id i (j+q.1))):=by
 unfold rFieldA
 cases ti.offs[f]?<;>rfl
@[simp] theorem rFieldA_pv {f:Nat}:rFieldA ti H f (.c (.pv tg row j))=ti.offs[f]?.map fun q=>(ti.form=5∧0<q.2.1,.c (.pv tg row (j+q.1))):=by
 unfold rFieldA
 cases ti.offs[f]?<;>rfl
@[simp] theorem rField_go {f:Nat}:rField ti f (.g cs)=ti.offs[f]?.bind fun q=>(rdRow q.2.2 q.2.1 cs q.1).map fun v=>(ti.form=5∧0<q.2.1,v):=by
 unfold rField
 cases ti.offs[f]?<;>rfl
@[simp] theorem rIndexA_sl:rIndexA ti te eid H (.c (.sl tg cl xs)) (.c (.raw (.int k a)))=some ((ti.form=2∧te.ok=true∧te.sz=(xs.getD a.toNat []).length)∧0≤a∧a<xs.length,.c (.pv tg (xs.getD a.toNat []) 0)):=rfl
@[simp] theorem rIndexA_so:rIndexA ti te eid H (.c (.so id off len)) (.c (.raw (.int k a)))=some ((ti.form=2∧te.ok=true∧∃frz rows,H id=.arr eid te.sz frz rows)∧0≤a∧a<len,.c (.pt id (off+a.toNat) 0)):=rfl
@[simp] theorem rIndex_go:rIndex ti (.c (.str l)) (.c (.raw (.int k a)))=some (ti.form=1∧0≤a∧a<l.length,.c (.raw (.int .u8 (bts l a)))):=rfl
def exAt (o:Option (Bool×List AC)):Option (Prop×AV):=
 match o with
 |some (true,cs)=>some (True,.g cs)
 |some (false,[c])=>some (True,.c c)
 |_=>none
@[simp] theorem rExtract_go {ps:List (Bool×List AC)}:rExtract i (.t ps)=exAt ps[i]?:=rfl
@[simp] theorem exAt_g:exAt (some (true,cs))=some (True,.g cs):=rfl
@[simp] theorem exAt_c:exAt (some (false,[c]))=some (True,.c c):=rfl
def ivA (o:Option AV) (d:Int):Option Int:=
 match o with
 |none=>some d
 |some (.c (.raw (.int _ i)))=>some i
 |_=>none
@[simp] theorem rSlice_str {lo hi mx:Option AV}:rSlice ti te eid H (.c (.str l)) lo hi mx=(match lo.getD (.c (.raw (.int .i64 0))),hi.getD (.c (.raw (.int .i64 l.length))) with
  |.c (.raw (.int _ i)),.c (.raw (.int _ j))=>some (ti.form=1∧mx.isNone=true∧0≤i∧i≤j∧j≤l.length,.c (.str ((l.take j.toNat).drop i.toNat)))
  |_,_=>none):=rfl
@[simp] theorem rSlice_sl {lo hi mx:Option AV}:rSlice ti te eid H (.c (.sl tg cl xs)) lo hi mx=(match lo.getD (.c (.raw (.int .i64 0))),hi.getD (.c (.raw (.int .i64 xs.length))),mx with
  |.c (.raw (.int _ i)),.c (.raw (.int _ j)),none=>some (ti.form=2∧te.ok=true∧(∀r∈xs,r.length=te.sz)∧0≤i∧i≤j∧j≤xs.length,.c (.sl tg false ((xs.take j.toNat).drop i.toNat)))
  |.c (.raw (.int _ i)),.c (.raw (.int _ j)),some (.c (.raw (.int _ m)))=>some (ti.form=2∧te.ok=true∧(∀r∈xs,r.length=te.sz)∧0≤i∧i≤j∧j=m∧m≤xs.length∧hi.isSome=true,.c (.sl tg true ((xs.take j.toNat).drop i.toNat)))
  |_,_,_=>none):=rfl
@[simp] theorem rSlice_so {lo hi mx:Option AV}:rSlice ti te eid H (.c (.so id off len)) lo hi mx=(match lo.getD (.c (.raw (.int .i64 0))),hi.getD (.c (.raw (.int .i64 len))),mx with
  |.c (.raw (.int _ i)),.c (.raw (.int _ j)),none=>some (ti.form=2∧te.ok=true∧(∃sz frz rows,H id=.arr eid sz frz rows∧sz=te.sz)∧0≤i∧i≤j∧j≤len,.c (.so id (off+i.toNat) (j.toNat-i.toNat)))
  |_,_,_=>none):=rfl
@[simp] theorem rLen_str:rLen ti H (.c (.str l))=some (ti.form=1,.c (.raw (.int .i64 l.length))):=rfl
@[simp] theorem rLen_so:rLen ti H (.c (.so id off len))=some (ti.form=2∧(H id).live=true,.c (.raw (.int .i64 len))):=rfl
@[simp] theorem rLen_sl:rLen ti H (.c (.sl tg cl xs))=some (ti.form=2,.c (.raw (.int .i64 xs.length))):=rfl
@[simp] theorem rLen_nil:rLen ti H (.c (.raw (.slice none 0 0)))=some (ti.form=2,.c (.raw (.int .i64 0))):=rfl
end
variable {ti:TyI} {k:IntKind} {a b:Int}
theorem bin_add:abin ti .add (.c (.raw (.int k a))) (.c (.raw (.int k b)))=some (True,.raw (.int k (k.wrap (a+b)))):=by simp [abin,aint]
theorem bin_sub:abin ti .sub (.c (.raw (.int k a))) (.c (.raw (.int k b)))=some (True,.raw (.int k (k.wrap (a-b)))):=by simp [abin,aint]
theorem bin_mul:abin ti .mul (.c (.raw (.int k a))) (.c (.raw (.int k b)))=some (True,.raw (.int k (k.wrap (a*b)))):=by simp [abin,aint]
theorem bin_lss:abin ti .lss (.c (.raw (.int k a))) (.c (.raw (.int k b)))=some (True,.raw (.bool (decide (a<b)))):=by simp [abin,aint]
theorem bin_leq:abin ti .leq (.c (.raw (.int k a))) (.c (.raw (.int k b)))=some (True,.raw (.bool (decide (a≤b)))):=by simp [abin,aint]
theorem bin_gtr:abin ti .gtr (.c (.raw (.int k a))) (.c (.raw (.int k b)))=some (True,.raw (.bool (decide (b<a)))):=by simp [abin,aint]
theorem bin_geq:abin ti .geq (.c (.raw (.int k a))) (.c (.raw (.int k b)))=some (True,.raw (.bool (decide (b≤a)))):=by simp [abin,aint]
theorem bin_eql:abin ti .eql (.c (.raw (.int k a))) (.c (.raw (.int k b)))=some (True,.raw (.bool (decide (a=b)))):=by simp [abin,aint]
theorem bin_neq:abin ti .neq (.c (.raw (.int k a))) (.c (.raw (.int k b)))=some (True,.raw (.bool (!decide (a=b)))):=by simp [abin,aint]
def iand (k:IntKind) (a b:Int):Int:=k.wrap (BitVec.ofInt k.bits a &&&BitVec.ofInt k.bits b).toNat
def ior (k:IntKind) (a b:Int):Int:=k.wrap (BitVec.ofInt k.bits a |||BitVec.ofInt k.bits b).toNat
theorem bin_and:abin ti .and (.c (.raw (.int k a))) (.c (.raw (.int k b)))=some (True,.raw (.int k (iand k a b))):=by simp [abin,aint,iand]
theorem bin_or:abin ti .or (.c (.raw (.int k a))) (.c (.raw (.int k b)))=some (True,.raw (.int k (ior k a b))):=by simp [abin,aint,ior]
theorem bin_shl {k':IntKind}:abin ti .shl (.c (.raw (.int k a))) (.c (.raw (.int k' b)))=some (0≤b,.raw (.int k (k.wrap (a*2^(min b.toNat k.bits))))):=by simp [abin]
theorem bin_shr {k':IntKind}:abin ti .shr (.c (.raw (.int k a))) (.c (.raw (.int k' b)))=some (0≤b,.raw (.int k (a.fdiv (2^(min b.toNat k.bits))))):=by simp [abin]
theorem bin_quo:abin ti .quo (.c (.raw (.int k a))) (.c (.raw (.int k b)))=some (b≠0,.raw (.int k (k.wrap (a.tdiv b)))):=by simp [abin]
theorem bin_rem:abin ti .rem (.c (.raw (.int k a))) (.c (.raw (.int k b)))=some (b≠0,.raw (.int k (a.tmod b))):=by simp [abin]
variable {x y:List UInt8} {p q:Bool} {xs ys:List AC}
theorem bin_sadd:abin ti .add (.c (.str x)) (.c (.str y))=some (x.length+y.length≤9223372036854775807,.str (x++y)):=by simp [abin]
theorem bin_seql:abin ti .eql (.c (.str x)) (.c (.str y))=some (True,.raw (.bool (decide (x=y)))):=by simp [abin]
theorem bin_sneq:abin ti .neq (.c (.str x)) (.c (.str y))=some (True,.raw (.bool (!decide (x=y)))):=by simp [abin]
theorem bin_beql:abin ti .eql (.c (.raw (.bool p))) (.c (.raw (.bool q)))=some (ti.form=4,.raw (.bool (p==q))):=by simp [abin]
theorem bin_bneq:abin ti .neq (.c (.raw (.bool p))) (.c (.raw (.bool q)))=some (ti.form=4,.raw (.bool (p != q))):=by simp [abin]
theorem bin_g {op:BinOp}:abin ti op (.g xs) (.g ys)=aeq op (eqCells ti.eqs xs ys) ti.eqs:=by simp [abin]
variable {H:Heap} {v v':Value} {l l':List UInt8} {t t':Tag} {cl cl':Bool} {rows rows':List (List AC)} {id:Id} {off len e sz:Nat} {n:Int}
@[simp] theorem ofVal_int:ofVal (.int k n)=.raw (.int k n):=rfl
@[simp] theorem ofVal_bool:ofVal (.bool p)=.raw (.bool p):=rfl
@[simp] theorem ofVal_string {s:ByteArray}:ofVal (.string s)=.str s.data.toList:=rfl
@[simp] theorem ofVal_slice {x:Option Addr} {i j:Nat}:ofVal (.slice x i j)=.raw (.slice x i j):=rfl
@[simp] theorem ofVal_tuple {vs:Array Value}:ofVal (.tuple vs)=.raw (.tuple vs):=rfl
@[simp] theorem ofVal_pointer {x:Option Addr}:ofVal (.pointer x)=.raw (.pointer x):=rfl
@[simp] theorem live_arr {f:Bool}:(OK.arr e sz f rows).live=true:=rfl
@[simp] theorem live_dead:OK.dead.live=false:=rfl
@[simp] theorem live_unborn:OK.unborn.live=false:=rfl
@[simp] theorem cells_c {x:AC}:(AV.c x).cells=some [x]:=rfl
@[simp] theorem cells_g {xs:List AC}:(AV.g xs).cells=some xs:=rfl
@[simp] theorem viewL_nil:viewL H []=some []:=rfl
@[simp] theorem viewL_cons {c:AC} {r:List AC}:viewL H (c::r)=(match viewC H c,viewL H r with
  |some x,some xs=>some (x::xs)
  |_,_=>none):=rfl
@[simp] theorem viewA_nil:viewA H []=some []:=rfl
@[simp] theorem viewA_cons {c:AV} {r:List AV}:viewA H (c::r)=(match viewV H c,viewA H r with
  |some x,some xs=>some (x::xs)
  |_,_=>none):=rfl
section
variable {nm:Nat→Id} {i:Nat} {r:List AC}
@[simp] theorem flat_c {x:AC}:(AV.c x).flat=[x]:=rfl
@[simp] theorem flat_g {xs:List AC}:(AV.g xs).flat=xs:=rfl
@[simp] theorem flat_t {xs:List (Bool×List AC)}:(AV.t xs).flat=flatT xs:=rfl
@[simp] theorem ad_c {x:AC}:(AV.c x).ad nm=.c (adC nm 0 x):=rfl
@[simp] theorem ad_g {xs:List AC}:(AV.g xs).ad nm=.g (adL nm 0 xs):=rfl
@[simp] theorem ad_t {xs:List (Bool×List AC)}:(AV.t xs).ad nm=.t (adT nm 0 xs):=rfl
@[simp] theorem adC_nw:adC nm i (.nw e sz rows)=.so (nm i) 0 rows.length:=rfl
@[simp] theorem adC_raw:adC nm i (.raw v)=.raw v:=rfl
@[simp] theorem adC_str:adC nm i (.str l)=.str l:=rfl
@[simp] theorem adC_sl:adC nm i (.sl t cl rows)=.sl t cl rows:=rfl
@[simp] theorem adH1_nw:adH1 id (.nw e sz rows) H=hset H id (.arr e sz false rows):=rfl
@[simp] theorem adH1_raw:adH1 id (.raw v) H=H:=rfl
@[simp] theorem adH1_str:adH1 id (.str l) H=H:=rfl
@[simp] theorem adH1_sl:adH1 id (.sl t cl rows) H=H:=rfl
@[simp] theorem adUn_nil:adUn nm H i []=True:=rfl
@[simp] theorem adUn_nw:adUn nm H i (.nw e sz rows::r)=(H (nm i)=.unborn∧adUn nm H (i+1) r):=rfl
@[simp] theorem adUn_raw:adUn nm H i (.raw v::r)=adUn nm H (i+1) r:=rfl
@[simp] theorem adUn_str:adUn nm H i (.str l::r)=adUn nm H (i+1) r:=rfl
@[simp] theorem adUn_sl:adUn nm H i (.sl t cl rows::r)=adUn nm H (i+1) r:=rfl
@[simp] theorem soIds_nil:soIds []=[]:=rfl
@[simp] theorem soIds_so:soIds (.so id off len::r)=id::soIds r:=rfl
@[simp] theorem soIds_raw:soIds (.raw v::r)=soIds r:=rfl
@[simp] theorem soIds_str:soIds (.str l::r)=soIds r:=rfl
@[simp] theorem soIds_sl:soIds (.sl t cl rows::r)=soIds r:=rfl
end
@[simp] theorem exL_nil:exL H [] []=True:=rfl
@[simp] theorem exL_cons {c c':AC} {r r':List AC}:exL H (c::r) (c'::r')=(exC H c c'∧exL H r r'):=rfl
@[simp] theorem exT_nil:exT H [] []=True:=rfl
@[simp] theorem exT_cons {b b':Bool} {c c':List AC} {r r':List (Bool×List AC)}:exT H ((b,c)::r) ((b',c')::r')=(b=b'∧exL H c c'∧exT H r r'):=rfl
@[simp] theorem bytesAC_nil:bytesAC []=some []:=rfl
@[simp] theorem bytesAC_cons {r:List (List AC)}:bytesAC ([.raw (.int .u8 n)]::r)=(bytesAC r).map fun l=>UInt8.ofNat n.toNat::l:=rfl
@[simp] theorem exC_raw:exC H (.raw v) (.raw v')=(v=v'):=by unfold exC;split<;>simp_all
@[simp] theorem exC_str:exC H (.str l) (.str l')=(l=l'):=rfl
@[simp] theorem exC_so_nw:exC H (.so id off len) (.nw e sz rows)=(off=0∧H id=.arr e sz false rows∧len=rows.length):=rfl
@[simp] theorem exC_so_sl:exC H (.so id off len) (.sl t cl rows)=(t≠.brw∧cl=false∧rowsOf H (.so id off len)=some rows):=rfl
@[simp] theorem exC_nil_nw:exC H (.raw (.slice none 0 0)) (.nw e sz rows)=(rows=[]):=rfl
@[simp] theorem exC_nil_sl:exC H (.raw (.slice none 0 0)) (.sl t cl rows)=(rows=[]):=rfl
@[simp] theorem exC_sl_sl:exC H (.sl t cl rows) (.sl t' cl' rows')=(rows=rows'∧(t'=t∨(t=.new∧t'=.old))∧t'≠.brw∧(cl'=true→cl=true)):=rfl
@[simp] theorem exV_c {x y:AC}:exV H (.c x) (.c y)=exC H x y:=rfl
@[simp] theorem exV_g {x y:List AC}:exV H (.g x) (.g y)=exL H x y:=rfl
@[simp] theorem exV_t {x y:List (Bool×List AC)}:exV H (.t x) (.t y)=exT H x y:=rfl
@[simp] theorem retC_raw:RetC (.raw v)=True:=by simp [RetC,retOK_raw]
@[simp] theorem retC_str:RetC (.str l)=True:=by simp [RetC,retOK_str]
@[simp] theorem retC_sl:RetC (.sl t cl rows)=(t≠.brw∧∀r∈rows,∀c∈r,RetOK c):=by simp [RetC,retOK_sl]
@[simp] theorem retC_nw:RetC (.nw e sz rows)=(∀r∈rows,∀c∈r,RetOK c):=rfl
attribute [simp] retOK_raw retOK_str retOK_sl
@[simp] theorem vok_raw:VOK (.raw v)=True:=rfl
@[simp] theorem vok_str:VOK (.str l)=True:=rfl
@[simp] theorem vok_sl:VOK (.sl t cl rows)=(∀r∈rows,∀c∈r,OldOK c):=rfl
@[simp] theorem vok_fn {f:FuncId} {caps:List AC}:VOK (.fn f caps)=(∀c∈caps,VOK1 c):=rfl
@[simp] theorem vok_pv {row:List AC} {i:Nat}:VOK (.pv t row i)=(∀c∈row,VOK0 c):=rfl
@[simp] theorem vok1_pv {row:List AC} {i:Nat}:VOK1 (.pv t row i)=(∀c∈row,VOK0 c):=rfl
@[simp] theorem vok1_raw:VOK1 (.raw v)=True:=rfl
@[simp] theorem vok1_str:VOK1 (.str l)=True:=rfl
@[simp] theorem vok1_sl:VOK1 (.sl t cl rows)=(∀r∈rows,∀c∈r,OldOK c):=rfl
@[simp] theorem vok0_raw:VOK0 (.raw v)=True:=rfl
@[simp] theorem vok0_str:VOK0 (.str l)=True:=rfl
@[simp] theorem vok0_sl:VOK0 (.sl t cl rows)=(∀r∈rows,∀c∈r,OldOK c):=rfl
@[simp] theorem rowsOf_sl:rowsOf H (.sl t cl rows)=some rows:=rfl
def rowsAt (o:OK) (off len:Nat):Option (List (List AC)):=
 match o with
 |.arr _ _ _ rows=>if off+len≤rows.length then some ((rows.drop off).take len) else none
 |_=>none
@[simp] theorem rowsOf_so:rowsOf H (.so id off len)=rowsAt (H id) off len:=rfl
@[simp] theorem rowsAt_go {f:Bool}:rowsAt (.arr e sz f rows) off len=if off+len≤rows.length then some ((rows.drop off).take len) else none:=rfl
@[simp] theorem rowsOf_nil:rowsOf H (.raw (.slice none 0 0))=some []:=rfl
@[simp] theorem viewC_nil:viewC H (.raw (.slice none 0 0))=some (.sl .brw false []):=rfl
@[simp] theorem viewC_int:viewC H (.raw (.int k n))=some (.raw (.int k n)):=rfl
@[simp] theorem viewC_bool:viewC H (.raw (.bool p))=some (.raw (.bool p)):=rfl
@[simp] theorem viewC_str:viewC H (.str l)=some (.str l):=rfl
@[simp] theorem viewC_sl:viewC H (.sl t cl rows)=some (.sl .brw false rows):=rfl
@[simp] theorem viewC_so:viewC H (.so id off len)=(rowsOf H (.so id off len)).map fun rows=>.sl .brw false rows:=rfl
@[simp] theorem viewV_g:viewV H (.g xs)=(viewL H xs).map .g:=rfl
@[simp] theorem viewV_fn {f:FuncId} {caps:List AC}:viewV H (.c (.fn f caps))=(viewPL H caps).map fun cs=>.c (.fn f cs):=rfl
def viewAt (o:OK) (i j:Nat):Option AC:=
 match o with
 |.arr _ _ _ rows=>match rows[i]? with
   |some row=>(viewL noHeap row).map fun cs=>.pv .brw cs j
   |none=>none
 |_=>none
def viewRow (o:Option (List AC)) (j:Nat):Option AC:=o.bind fun row=>(viewL noHeap row).map fun cs=>.pv .brw cs j
@[simp] theorem viewRow_go {row:List AC} {j:Nat}:viewRow (some row) j=(viewL noHeap row).map fun cs=>.pv .brw cs j:=rfl
@[simp] theorem viewP_pt {i j:Nat}:viewP H (.pt id i j)=viewAt (H id) i j:=rfl
@[simp] theorem viewAt_go {f:Bool} {i j:Nat}:viewAt (.arr e sz f rows) i j=viewRow rows[i]? j:=by
 show (match rows[i]? with
   |some row=>(viewL noHeap row).map fun cs=>AC.pv .brw cs j
   |none=>none)=_
 unfold viewRow
 generalize rows[i]?=o
 cases o<;>rfl
@[simp] theorem viewP_pv {row:List AC} {j:Nat}:viewP H (.pv t row j)=(viewL noHeap row).map fun cs=>.pv .brw cs j:=rfl
@[simp] theorem viewP_raw:viewP H (.raw v)=viewC H (.raw v):=rfl
@[simp] theorem viewP_str:viewP H (.str l)=some (.str l):=rfl
@[simp] theorem viewP_sl:viewP H (.sl t cl rows)=some (.sl .brw false rows):=rfl
@[simp] theorem viewP_so:viewP H (.so id off len)=viewC H (.so id off len):=rfl
@[simp] theorem viewPL_nil:viewPL H []=some []:=rfl
@[simp] theorem viewPL_cons {c:AC} {r:List AC}:viewPL H (c::r)=(match viewP H c,viewPL H r with
  |some x,some xs=>some (x::xs)
  |_,_=>none):=rfl
@[simp] theorem viewV_pt {i j:Nat}:viewV H (.c (.pt id i j))=(viewP H (.pt id i j)).map .c:=rfl
@[simp] theorem viewV_pv {row:List AC} {j:Nat}:viewV H (.c (.pv t row j))=(viewP H (.pv t row j)).map .c:=rfl
@[simp] theorem viewV_raw:viewV H (.c (.raw v))=(viewC H (.raw v)).map .c:=rfl
@[simp] theorem viewV_str:viewV H (.c (.str l))=some (.c (.str l)):=rfl
@[simp] theorem viewV_sl:viewV H (.c (.sl t cl rows))=some (.c (.sl .brw false rows)):=rfl
@[simp] theorem viewV_so:viewV H (.c (.so id off len))=(viewC H (.so id off len)).map .c:=rfl
@[simp] theorem one_raw:AC.one H (.raw v)=v.oneCell':=rfl
@[simp] theorem one_str:AC.one H (.str l)=true:=rfl
@[simp] theorem one_sl:AC.one H (.sl t cl rows)=true:=rfl
@[simp] theorem one_so:AC.one H (.so id off len)=(H id).live:=rfl
@[simp] theorem one_fn {f:FuncId} {caps:List AC}:AC.one H (.fn f caps)=true:=rfl
@[simp] theorem resV_tmp {i:Nat}:resV P st (.tmp i)=some (st.s i):=rfl
def resAt (ti:TyI) (H:Heap) (v:AV):Option AV:=
 match v with
 |.c (.pt id i j)=>match H id with
   |.arr _ _ _ rows=>match rows[i]? with
    |some row=>if ti.ok=true then rdRow ti.ag ti.sz row j else none
    |none=>none
   |_=>none
 |_=>none
def resRow (ti:TyI) (j:Nat) (o:Option (List AC)):Option AV:=o.bind fun row=>if ti.ok=true then rdRow ti.ag ti.sz row j else none
@[simp] theorem resRow_go {ti:TyI} {j:Nat} {row:List AC}:resRow ti j (some row)=if ti.ok=true then rdRow ti.ag ti.sz row j else none:=rfl
@[simp] theorem resV_cell {x:Nat} {ty:TypeId}:resV P st (.cell x ty)=resAt (tyI P ty) st.H (st.s x):=rfl
@[simp] theorem resAt_go {ti:TyI} {i j:Nat}:resAt ti H (.c (.pt id i j))=resRow ti j (rObj H id i):=by
 show (match H id with
   |.arr _ _ _ rows=>match rows[i]? with
    |some row=>if ti.ok=true then rdRow ti.ag ti.sz row j else none
    |none=>none
   |_=>none)=_
 unfold resRow rObj
 generalize H id=o
 cases o with
 |arr e sz f rows=>
  simp only
  generalize rows[i]?=q
  cases q<;>rfl
 |_=>rfl
@[simp] theorem part_c {x:AC}:(AV.c x).part=some (false,[x]):=rfl
@[simp] theorem part_g {xs:List AC}:(AV.g xs).part=some (true,xs):=rfl
@[simp] theorem resL_nil:resL P st []=some []:=rfl
@[simp] theorem resL_cons {r:ResultVar} {rs:List ResultVar}:resL P st (r::rs)=(match (resV P st r).bind AV.part,resL P st rs with
  |some p,some ps=>some (p::ps)
  |_,_=>none):=by rfl
@[simp] theorem oneCell_int:(Value.int k n).oneCell'=true:=rfl
@[simp] theorem oneCell_bool:(Value.bool p).oneCell'=true:=rfl
@[simp] theorem oneCell_nil:(Value.slice none 0 0).oneCell'=true:=rfl
def onG (v:AV) (want:Bool) (y n1 n2:Prop):Prop:=
 match v with
 |.c (.raw (.bool b))=>(b=want→y)∧(b=!want→n1)
 |.c (.raw (.tuple _))=>n2
 |_=>False
@[simp] theorem onG_boolT {y n1 n2:Prop}:onG (.c (.raw (.bool p))) true y n1 n2=onIf p y n1:=rfl
@[simp] theorem onG_boolF {y n1 n2:Prop}:onG (.c (.raw (.bool p))) false y n1 n2=onUn p y n1:=rfl
@[simp] theorem onG_undef {want:Bool} {y n1 n2:Prop} {vs:Array Value}:onG (.c (.raw (.tuple vs))) want y n1 n2=n2:=rfl
@[congr] theorem onG_cg {v v':AV} {want:Bool} {y n1 n2:Prop} (h:v=v'):onG v want y n1 n2=onG v' want y n1 n2:=by rw [h]
theorem agd_go {j:Nat} {want:Bool} {y n:St→Prop}:agd (some j) want st y n=onG (st.s j) want (y (st.put (some j) (.c (.raw (.bool want))))) (n (st.put (some j) (.c (.raw (.bool (!want)))))) (n st):=by
 unfold agd
 simp only
 generalize st.s j=v
 cases v with
 |c c=>cases c with
  |raw u=>cases u<;>rfl
  |_=>rfl
 |_=>rfl
@[simp] theorem undef_eq:undef=Value.tuple #[]:=rfl
attribute [congr] convK_cg
attribute [simp ↓] newObj_gon agd_go go_slice go_move go_assign go_pick go_alloc go_box go_build go_buildSlice go_load go_store go_nilCheck go_bin_t go_bin_i go_bin_b go_bin_s go_bin_nil go_not go_convert convK_str convK_raw convK_so convK_sl go_makeFunc go_makeSlice go_fieldAddr go_field go_indexAddr go_index go_extract go_call go_callS go_cond go_builtin go_len
attribute [simp]
 bin_add bin_sub bin_mul bin_lss bin_leq bin_gtr bin_geq bin_eql bin_neq bin_and bin_or bin_shl bin_shr bin_quo bin_rem bin_sadd bin_seql bin_sneq bin_beql bin_bneq bin_g
end Go.AE
set_option linter.unusedVariables false
set_option linter.unusedSimpArgs false
namespace Go.AE
open Go
variable {P:Program} {F:CT} {st:St}
theorem callS_mono {dr:Bool} {dst:Option Nat} {f:FuncId} {args:List AV} {K K':St→Prop} (hk:∀st,K st→K' st) (h:CallS P F dr st dst f args K):CallS P F dr st dst f args K':=by
 unfold CallS at *
 split at h
 ·split at h
  ·split at h
   ·exact ⟨h.1,h.2.1,h.2.2.1,hk _ h.2.2.2⟩
   ·exact h
  ·exact h
 ·split at h
  ·exact ⟨h.1,h.2.1,h.2.2.1,hk _ h.2.2.2⟩
  ·exact h
 ·exact acall_mono hk h
theorem dstepS_mono {o:SO} {st:St} {K K':List Id→St→Prop} (hk:∀W st,K W st→K' W st) (h:dstepS P F o st K):dstepS P F o st K':=by
 unfold dstepS at h ⊢
 split at h
 ·split at h
  ·split at h
   ·split at h
    ·split at h
     ·exact ⟨h.1,h.2.1,h.2.2.1,hk _ _ h.2.2.2⟩
     ·exact h
    ·exact h
   ·exact h
  ·exact h
 ·split at h
  ·exact aop_mono (fun st h=>hk _ _ h) h
  ·exact h
 ·exact h
theorem stepS_mono {dr:Bool} {dst:Option Nat} {op:Op} {K K':St→Prop} (hk:∀st,K st→K' st) (h:stepS P F dr dst op st K):stepS P F dr dst op st K':=by
 cases op
 case call c=>
  simp only [stepS] at h ⊢
  split at h
  ·exact abi_mono hk h
  ·split at h
   ·exact callS_mono hk h
   ·exact h.elim
  ·exact h.elim
 case binOp op t x y t'=>
  simp only [stepS] at h ⊢
  split at h
  ·rename_i e;rw [if_pos e];exact ⟨h.1,aNil_mono hk h.2⟩
  ·rename_i e;rw [if_neg e];exact aop_mono hk h
 all_goals (simp only [stepS] at h ⊢;exact aop_mono hk h)
theorem opsS_mono {dr:Bool}:∀{l:List SO} {K K':St→Prop} {st:St},(∀st,K st→K' st)→opsS P F dr l K st→opsS P F dr l K' st
 |[],K,K',st,hk,h=>hk _ h
 |o::l,K,K',st,hk,h=>by
  unfold opsS at h ⊢
  split at h
  ·exact stepS_mono (fun st h=>opsS_mono hk h) h
  ·exact agd_mono (fun st h=>stepS_mono (fun st h=>opsS_mono hk h) h) (fun st h=>opsS_mono hk h) h
theorem opsD_mono {js:List Nat} {prs:List (Nat×Nat)}:∀{l:List SO} {i:Nat} {W:List (Nat×Id)} {N:List (Nat×AV)} {K K':List (Nat×Id)→List (Nat×AV)→St→Prop} {st:St},(∀W N st,K W N st→K' W N st)→opsD P F js prs l i W N K st→opsD P F js prs l i W N K' st
 |[],i,W,N,K,K',st,hk,h=>hk _ _ _ h
 |o::l,i,W,N,K,K',st,hk,h=>by
  unfold opsD at h ⊢
  split
  ·rename_i hj
   rw [if_pos hj] at h
   exact dstepS_mono (fun W st h=>opsD_mono hk h) h
  ·rename_i hj
   rw [if_neg hj] at h
   split at h
   ·exact stepS_mono (fun st h=>opsD_mono hk h) h
   ·exact agd_mono (fun st h=>stepS_mono (fun st h=>opsD_mono hk h) h) (fun st h=>opsD_mono hk h) h
theorem awpS_mono:∀{c:SC} {Q Q':AEx→St→Prop} {st:St},(∀e st,Q e st→Q' e st)→awpS P F c Q st→awpS P F c Q' st
 |.skip,Q,Q',st,hq,h=>hq _ _ h
 |.region id ops d,Q,Q',st,hq,h=>opsS_mono (fun st h=>hq _ _ h) h
 |.seq x y,Q,Q',st,hq,h=>awpS_mono (c:=x) (fun e st h=>by cases e<;>first|exact awpS_mono (c:=y) hq h|exact hq _ _ h) h
 |.cond c x y,Q,Q',st,hq,h=>by
  unfold awpS at h ⊢
  split at h
  ·exact ⟨fun e=>awpS_mono (c:=x) hq (h.1 e),fun e=>awpS_mono (c:=y) hq (h.2 e)⟩
  ·exact h
 |.block id x,Q,Q',st,hq,h=>awpS_mono (c:=x) (fun e st h=>by
   cases e with
   |exit j=>
    simp only [ablock] at h ⊢
    split
    ·rename_i hj;rw [if_pos hj] at h;exact hq _ _ h
    ·rename_i hj;rw [if_neg hj] at h;exact hq _ _ h
   |_=>exact hq _ _ h) h
 |.loop x,Q,Q',st,hq,h=>by
  obtain ⟨I,μ,h1,h2⟩:=h
  exact ⟨I,μ,h1,fun st' hi=>awpS_mono (c:=x) (fun e st h=>by cases e<;>first|exact h|exact hq _ _ h) (h2 st' hi)⟩
 |.exit id,Q,Q',st,hq,h=>hq _ _ h
 |.ret,Q,Q',st,hq,h=>hq _ _ h
 |.no,_,_,_,_,h=>h.elim
 |.regionK id ops js prs,Q,Q',st,hq,h=>opsD_mono (fun W N st h=>⟨h.1,hq _ _ h.2⟩) h
theorem loop_n {x:SC} {Q:AEx→St→Prop} (I:Nat→St→Prop) (n:Nat) (h0:I n st) (h:∀n st',I n st'→awpS P F x (athen (fun st''=>∃m,m<n∧I m st'') Q) st'):awpS P F (.loop x) Q st:=by
 classical
 have least:∀(m:Nat) st,I m st→∃k,I k st∧∀j,I j st→k≤j:=by
  intro m
  induction m using Nat.strongRecOn with
  |_ m ih=>
   intro st hm
   by_cases hq:∃j,j<m∧I j st
   ·obtain ⟨j,hj,hI⟩:=hq
    exact ih j hj st hI
   ·exact ⟨m,hm,fun j hj=>Nat.le_of_not_lt fun hlt=>hq ⟨j,hlt,hj⟩⟩
 let μ:St→Nat:=fun st=>if hq:∃m,I m st then Classical.choose (least (Classical.choose hq) st (Classical.choose_spec hq)) else 0
 have hμ:∀m st,I m st→I (μ st) st∧μ st≤m:=fun m st hm=>by
  have hq:∃m,I m st:=⟨m,hm⟩
  have:=Classical.choose_spec (least (Classical.choose hq) st (Classical.choose_spec hq))
  have e:μ st=Classical.choose (least (Classical.choose hq) st (Classical.choose_spec hq)):=by simp only [μ];rw [dif_pos hq]
  rw [e]
  exact ⟨this.1,this.2 m hm⟩
 refine ⟨fun st=>∃m,I m st,μ,⟨n,h0⟩,fun st' ⟨m,hm⟩=>?_⟩
 refine awpS_mono (fun e st'' q=>?_) (h (μ st') st' (hμ m st' hm).1)
 cases e with
 |normal=>
  obtain ⟨m',hlt,hm'⟩:=q
  exact ⟨⟨m',hm'⟩,Nat.lt_of_le_of_lt (hμ m' st'' hm').2 hlt⟩
 |_=>exact q
class Enc (α:Type) where
 w:Nat
 row:α→List AC
 dec:List AC→Option α
 dec_row:∀a,dec (row a)=some a
 row_dec:∀{r:List AC} {a:α},dec r=some a→r=row a
 len:∀a,(row a).length=w
 old:∀a,∀c∈row a,OldOK c
 ret:∀a,∀c∈row a,RetOK c
section
variable {α:Type} [Enc α]
def rowsE (l:List α):List (List AC):=l.map Enc.row
def decE:List (List AC)→Option (List α)
 |[]=>some []
 |r::rs=>match Enc.dec r,decE rs with
  |some a,some l=>some (a::l)
  |_,_=>none
@[simp] theorem rowsE_length (l:List α):(rowsE l).length=l.length:=by simp [rowsE]
@[simp] theorem rowsE_nil:rowsE ([]:List α)=[]:=rfl
@[simp] theorem decE_rows:∀l:List α,decE (rowsE l)=some l
 |[]=>rfl
 |s::l=>by
  have:=decE_rows l
  unfold rowsE at this
  simp [rowsE,decE,this,Enc.dec_row]
theorem decE_some:∀{r:List (List AC)} {l:List α},decE r=some l→r=rowsE l
 |[],l,h=>by simp [decE] at h;subst h;rfl
 |r::rs,l,h=>by
  unfold decE at h
  split at h
  ·rename_i a l' h1 h2
   cases h
   rw [decE_some h2,Enc.row_dec h1];rfl
  ·cases h
@[simp] theorem rowsE_elem {l:List α} {i:Nat} (h:i<(rowsE l).length):(rowsE l)[i]=Enc.row (l[i]'(by simpa using h)):=by simp [rowsE]
@[simp] theorem rowsE_at {l:List α} {i:Nat} (h:i<l.length):(rowsE l)[i]?.getD []=Enc.row l[i]:=by simp [rowsE,h]
@[simp] theorem rowsE_get? {l:List α} {i:Nat}:(rowsE l)[i]?=(l[i]?).map Enc.row:=by simp [rowsE]
@[simp] theorem rowsE_old {l:List α}:(∀r∈rowsE l,∀c∈r,OldOK c)↔True:=by simp only [rowsE,List.mem_map,iff_true];rintro r ⟨a,_,rfl⟩;exact Enc.old a
@[simp] theorem rowsE_ret {l:List α}:(∀r∈rowsE l,∀c∈r,RetOK c)↔True:=by simp only [rowsE,List.mem_map,iff_true];rintro r ⟨a,_,rfl⟩;exact Enc.ret a
@[simp] theorem rowsE_len {l:List α} {n:Nat} (h:n=Enc.w α):(∀r∈rowsE l,r.length=n)↔True:=by
 subst h
 simp only [rowsE,List.mem_map,iff_true]
 rintro r ⟨a,_,rfl⟩
 exact Enc.len a
theorem rowsE_append (l m:List α):rowsE (l++m)=rowsE l++rowsE m:=by simp [rowsE]
theorem rowsE_one (a:α):[Enc.row a]=rowsE [a]:=rfl
theorem rowsE_snoc (l:List α) (a:α):rowsE l++[Enc.row a]=rowsE (l++[a]):=by simp [rowsE]
theorem rowsE_set (l:List α) (i:Nat) (a:α):(rowsE l).set i (Enc.row a)=rowsE (l.set i a):=by simp [rowsE,List.map_set]
theorem rowsE_drop (l:List α) (i:Nat):(rowsE l).drop i=rowsE (l.drop i):=by simp [rowsE,List.map_drop]
theorem rowsE_take (l:List α) (i:Nat):(rowsE l).take i=rowsE (l.take i):=by simp [rowsE,List.map_take]
theorem rowsE_replicate (n:Nat) (a:α):List.replicate n (Enc.row a)=rowsE (List.replicate n a):=by simp [rowsE]
@[simp] theorem rowsE_inj {l m:List α}:rowsE l=rowsE m↔l=m:=
 ⟨fun h=>by have:=congrArg (decE (α:=α)) h;simpa using this,fun h=>by rw [h]⟩
@[simp] theorem rowsE_nil_iff {l:List α}:rowsE l=[]↔l=[]:=by simp [rowsE]
end
instance encS:Enc (List UInt8) where
 w:=1
 row s:=[.str s]
 dec|[.str s]=>some s|_=>none
 dec_row _:=rfl
 row_dec {r a} h:=by split at h<;>simp_all
 len _:=rfl
 old a c hc:=by simp at hc;subst hc;exact .str _
 ret a c hc:=by simp at hc;subst hc;exact .str _
instance encI:Enc Int where
 w:=1
 row n:=[.raw (.int .i64 n)]
 dec|[.raw (.int .i64 n)]=>some n|_=>none
 dec_row _:=rfl
 row_dec {r a} h:=by split at h<;>simp_all
 len _:=rfl
 old a c hc:=by simp at hc;subst hc;exact .raw _
 ret a c hc:=by simp at hc;subst hc;exact .raw _
@[simp] theorem row_S (s:List UInt8):Enc.row s=[AC.str s]:=rfl
@[simp] theorem row_I (n:Int):Enc.row n=[AC.raw (.int .i64 n)]:=rfl
@[simp] theorem w_S:Enc.w (List UInt8)=1:=rfl
@[simp] theorem w_I:Enc.w Int=1:=rfl
theorem eq_step {α:Type} {a b:List α} {i:Nat} (h:a.take i=b.take i) (ha:i<a.length) (hb:i<b.length) (he:a[i]=b[i]):a.take (i+1)=b.take (i+1):=by
 rw [List.take_add_one,List.take_add_one,h];simp [ha,hb,he]
theorem wrap64_id {n:Int} (h1:-9223372036854775808≤n) (h2:n≤9223372036854775807):IntKind.wrap .i64 n=n:=by
 have:IntKind.wrap .i64 n=if n%18446744073709551616≥9223372036854775808 then n%18446744073709551616-18446744073709551616 else n%18446744073709551616:=by
  simp [IntKind.wrap,IntKind.bits,IntKind.signed]
 rw [this]
 split<;>omega
attribute [simp] Int.natCast_inj Int.ofNat_inj
def apAt (e:TypeId) (te:TyI) (teq same:Prop) (H:Heap) (id:Id) (n:Nat) (ys:List (List AC)) (o:OK):Option (Prop×(Heap×Nat×Nat×List (List AC))):=
 match o with
 |.arr e' sz false xs=>some (teq∧e'=e∧sz=te.sz∧te.ok=true∧(∀r∈ys,r.length=sz)∧0<sz∧n=(cutTo n xs).length∧¬same∧
   (cutTo n xs).length+ys.length≤9223372036854775807∧((cutTo n xs).length+ys.length)*te.bytes≤140737488355328,(hset H id .dead,e',sz,cutTo n xs++ys))
 |_=>none
def rApp (e:TypeId) (te:TyI) (teq:Prop) (H:Heap) (x y:AV) (ys:Option (List (List AC))):Option (Prop×(Heap×Nat×Nat×List (List AC))):=
 match x,ys with
 |.c (.raw (.slice none 0 0)),some ys=>some (teq∧te.ok=true∧(∀r∈ys,r.length=te.sz)∧0<te.sz∧ys.length≤9223372036854775807∧ys.length*te.bytes≤140737488355328,(H,e,te.sz,ys))
 |.c (.sl _ true xs),some ys=>some (teq∧te.ok=true∧(∀r∈xs,r.length=te.sz)∧(∀r∈ys,r.length=te.sz)∧0<te.sz∧(0<ys.length∨xs=[])∧
    xs.length+ys.length≤9223372036854775807∧(xs.length+ys.length)*te.bytes≤140737488355328,(H,e,te.sz,xs++ys))
 |.c (.so id 0 n),some ys=>apAt e te teq (y=.c (.so id 0 n)) H id n ys (H id)
 |_,_=>none
section
variable {e:TypeId} {te:TyI} {teq:Prop} {H:Heap} {y:AV} {ys xs:List (List AC)} {tg:Tag} {id:Id} {n:Nat}
@[simp] theorem rApp_nil:rApp e te teq H (.c (.raw (.slice none 0 0))) y (some ys)=some (teq∧te.ok=true∧(∀r∈ys,r.length=te.sz)∧0<te.sz∧ys.length≤9223372036854775807∧ys.length*te.bytes≤140737488355328,(H,e,te.sz,ys)):=rfl
@[simp] theorem rApp_sl:rApp e te teq H (.c (.sl tg true xs)) y (some ys)=some (teq∧te.ok=true∧(∀r∈xs,r.length=te.sz)∧(∀r∈ys,r.length=te.sz)∧0<te.sz∧(0<ys.length∨xs=[])∧
    xs.length+ys.length≤9223372036854775807∧(xs.length+ys.length)*te.bytes≤140737488355328,(H,e,te.sz,xs++ys)):=rfl
@[simp] theorem rApp_so:rApp e te teq H (.c (.so id 0 n)) y (some ys)=apAt e te teq (y=.c (.so id 0 n)) H id n ys (H id):=rfl
@[simp] theorem apAt_go {e' sz:Nat} {same:Prop}:apAt e te teq same H id n ys (.arr e' sz false xs)=some (teq∧e'=e∧sz=te.sz∧te.ok=true∧(∀r∈ys,r.length=sz)∧0<sz∧n=(cutTo n xs).length∧¬same∧
   (cutTo n xs).length+ys.length≤9223372036854775807∧((cutTo n xs).length+ys.length)*te.bytes≤140737488355328,(hset H id .dead,e',sz,cutTo n xs++ys)):=rfl
attribute [simp] cutTo_self
end
def rowsV (H:Heap) (v:AV):Option (List (List AC)):=
 match v with
 |.c c=>rowsOf H c
 |_=>none
@[simp] theorem rowsV_go {H:Heap} {c:AC}:rowsV H (.c c)=rowsOf H c:=rfl
theorem go_append {d:Nat} {K:St→Prop} {x y:Operand} {t t':TypeId}:abi P (some d) .append [x,y] [t,t'] st K =
  onP (rApp (tyI P t).elem (tyI P (tyI P t).elem) ((tyI P t).form=2∧t'=t) st.H (st.eval x) (st.eval y) (rowsV st.H (st.eval y))) fun r=>newObj (st.hto r.1) (some d) r.2.1 r.2.2.1 r.2.2.2 (fun id=>.so id 0 r.2.2.2.length) K:=by
 simp only [abi]
 generalize hy:st.eval y=yv
 have go:∀u:Option (List (List AC)),(match st.eval x,u,some d with
  |.c (.raw (.slice none 0 0)),some ys,some d=>
   ((tyI P t).form=2∧t'=t∧(tyI P (tyI P t).elem).ok=true∧(∀r∈ys,r.length=(tyI P (tyI P t).elem).sz)∧0<(tyI P (tyI P t).elem).sz∧ys.length≤9223372036854775807∧ys.length*(tyI P (tyI P t).elem).bytes≤140737488355328)∧
    newObj st (some d) (tyI P t).elem (tyI P (tyI P t).elem).sz ys (fun id=>.so id 0 ys.length) K
  |.c (.sl _ true xs),some ys,some d=>
   ((tyI P t).form=2∧t'=t∧(tyI P (tyI P t).elem).ok=true∧(∀r∈xs,r.length=(tyI P (tyI P t).elem).sz)∧(∀r∈ys,r.length=(tyI P (tyI P t).elem).sz)∧0<(tyI P (tyI P t).elem).sz∧(0<ys.length∨xs=[])∧
    xs.length+ys.length≤9223372036854775807∧(xs.length+ys.length)*(tyI P (tyI P t).elem).bytes≤140737488355328)∧
    newObj st (some d) (tyI P t).elem (tyI P (tyI P t).elem).sz (xs++ys) (fun id=>.so id 0 (xs.length+ys.length)) K
  |.c (.so id 0 n),some ys,some d=>
   match st.H id with
   |.arr e sz false xs=>
    ((tyI P t).form=2∧t'=t∧e=(tyI P t).elem∧sz=(tyI P (tyI P t).elem).sz∧(tyI P (tyI P t).elem).ok=true∧(∀r∈ys,r.length=sz)∧0<sz∧n=(cutTo n xs).length∧yv≠.c (.so id 0 n)∧
     (cutTo n xs).length+ys.length≤9223372036854775807∧((cutTo n xs).length+ys.length)*(tyI P (tyI P t).elem).bytes≤140737488355328)∧
     newObj {st with H:=hset st.H id .dead} (some d) e sz (cutTo n xs++ys) (fun id=>.so id 0 ((cutTo n xs).length+ys.length)) K
   |_=>False
  |_,_,_=>False)=onP (rApp (tyI P t).elem (tyI P (tyI P t).elem) ((tyI P t).form=2∧t'=t) st.H (st.eval x) yv u) fun r=>newObj (st.hto r.1) (some d) r.2.1 r.2.2.1 r.2.2.2 (fun id=>.so id 0 r.2.2.2.length) K:=fun u=>by
  generalize st.eval x=v
  cases u with
  |none=>
   cases v with
   |c c=>cases c with
    |raw w=>cases w with
     |slice a b c=>cases a<;>cases b<;>cases c<;>rfl
     |_=>rfl
    |sl _ b _=>cases b<;>rfl
    |so id off n=>cases off<;>rfl
    |_=>rfl
   |_=>rfl
  |some ys=>
   cases v with
   |c c=>cases c with
    |raw w=>cases w with
     |slice a b c=>
      cases a with
      |some a=>rfl
      |none=>cases b with
       |zero=>cases c with
        |zero=>simp only [rApp_nil,onP_go,and_assoc];rfl
        |succ c=>rfl
       |succ b=>rfl
     |_=>rfl
    |sl tg b xs=>cases b with
     |false=>rfl
     |true=>simp only [rApp_sl,onP_go,and_assoc,List.length_append];rfl
    |so id off n=>cases off with
     |succ o=>rfl
     |zero=>
      simp only [rApp_so]
      cases st.H id with
      |arr ee sz f xs=>cases f with
       |true=>rfl
       |false=>simp only [apAt_go,onP_go,and_assoc,List.length_append,ne_eq];rfl
      |_=>rfl
    |_=>rfl
   |_=>rfl
 exact go (rowsV st.H yv)
def cpAt (t:TyI) (te:TyI) (H:Heap) (id:Id) (off len:Nat) (ys:List (List AC)) (o:OK):Option (Prop×(Heap×Nat)):=
 match o with
 |.arr e sz false rows=>some (t.form=2∧sz=te.sz∧te.ok=true∧(∀r∈ys,r.length=sz)∧0<sz∧off+len≤rows.length,(hset H id (.arr e sz false (rows.take off++ys.take len++rows.drop (off+min len ys.length))),min len ys.length))
 |_=>none
def rCopy (t te:TyI) (H:Heap) (x:AV) (ys:Option (List (List AC))):Option (Prop×(Heap×Nat)):=
 match x,ys with
 |.c (.so id off len),some ys=>cpAt t te H id off len ys (H id)
 |_,_=>none
@[simp] theorem rCopy_go {t te:TyI} {H:Heap} {id:Id} {off len:Nat} {ys:List (List AC)}:rCopy t te H (.c (.so id off len)) (some ys)=cpAt t te H id off len ys (H id):=rfl
@[simp] theorem cpAt_go {t te:TyI} {H:Heap} {id:Id} {off len e sz:Nat} {ys rows:List (List AC)}:cpAt t te H id off len ys (.arr e sz false rows)=some (t.form=2∧sz=te.sz∧te.ok=true∧(∀r∈ys,r.length=sz)∧0<sz∧off+len≤rows.length,(hset H id (.arr e sz false (rows.take off++ys.take len++rows.drop (off+min len ys.length))),min len ys.length)):=rfl
theorem go_copy {dst:Option Nat} {K:St→Prop} {x y:Operand} {t t':TypeId}:abi P dst .copy [x,y] [t,t'] st K =
  onP (rCopy (tyI P t) (tyI P (tyI P t).elem) st.H (st.eval x) (rowsV st.H (st.eval y))) fun r=>K ((st.hto r.1).put dst (.c (.raw (.int .i64 ((r.2:Nat):Int))))):=by
 simp only [abi]
 generalize st.eval x=v
 generalize st.eval y=q
 cases q with
 |c cc=>
  simp only [rowsV_go]
  generalize rowsOf st.H cc=u
  cases v with
  |c c=>
   cases c with
   |so id off len=>
    cases u with
    |none=>rfl
    |some ys=>
     simp only [rCopy_go]
     cases st.H id with
     |arr ee sz f rows=>
      cases f with
      |true=>rfl
      |false=>simp only [cpAt_go,onP_go];rfl
     |_=>rfl
   |_=>rfl
  |_=>rfl
 |_=>
  cases v with
  |c c=>cases c<;>rfl
  |_=>rfl
def rMin (x y:AV):Option (Prop×AV):=
 match x,y with
 |.c (.raw (.int k a)),.c (.raw (.int k' b))=>some (k=k',.c (.raw (.int k (if b<a then b else a))))
 |_,_=>none
@[simp] theorem rMin_go {k k':IntKind} {a b:Int}:rMin (.c (.raw (.int k a))) (.c (.raw (.int k' b)))=some (k=k',.c (.raw (.int k (if b<a then b else a)))):=rfl
theorem go_min {dst:Option Nat} {K:St→Prop} {x y:Operand} {ts:List TypeId}:abi P dst .min [x,y] ts st K=onP (rMin (st.eval x) (st.eval y)) fun v=>K (st.put dst v):=by
 simp only [abi]
 generalize st.eval x=u
 generalize st.eval y=v
 unfold rMin
 split
 ·rfl
 ·rename_i hn
  split
  ·rename_i k a k' b;exact (hn _ _ _ _ rfl rfl).elim
  ·rfl
def rMax (x y:AV):Option (Prop×AV):=
 match x,y with
 |.c (.raw (.int k a)),.c (.raw (.int k' b))=>some (k=k',.c (.raw (.int k (if a<b then b else a))))
 |_,_=>none
@[simp] theorem rMax_go {k k':IntKind} {a b:Int}:rMax (.c (.raw (.int k a))) (.c (.raw (.int k' b)))=some (k=k',.c (.raw (.int k (if a<b then b else a)))):=rfl
theorem go_max {dst:Option Nat} {K:St→Prop} {x y:Operand} {ts:List TypeId}:abi P dst .max [x,y] ts st K=onP (rMax (st.eval x) (st.eval y)) fun v=>K (st.put dst v):=by
 simp only [abi]
 generalize st.eval x=u
 generalize st.eval y=v
 unfold rMax
 split
 ·rfl
 ·rename_i hn
  split
  ·rename_i k a k' b;exact (hn _ _ _ _ rfl rfl).elim
  ·rfl
attribute [simp ↓] go_append go_copy go_min go_max
section
variable {ks:List Nat} {xs ys eqs:List AC} {k:IntKind} {a b:Int} {p q r:Bool} {s t:List UInt8} {es:List Nat}
@[simp] theorem eqc_nil:eqCells [] [] []=some true:=rfl
@[simp] theorem eqc_int:eqCells (3::ks) (.raw (.int k a)::xs) (.raw (.int k b)::ys)=(eqCells ks xs ys).map fun r=>decide (a=b)&&r:=by simp [eqCells]
@[simp] theorem eqc_bool:eqCells (4::ks) (.raw (.bool p)::xs) (.raw (.bool q)::ys)=(eqCells ks xs ys).map fun r=>(p==q)&&r:=by simp [eqCells]
@[simp] theorem eqc_str:eqCells (1::ks) (.str s::xs) (.str t::ys)=(eqCells ks xs ys).map fun r=>decide (s=t)&&r:=by simp [eqCells]
@[simp] theorem aeq_eql:aeq .eql (some r) es=some (es≠[],.raw (.bool r)):=rfl
@[simp] theorem aeq_neq:aeq .neq (some r) es=some (es≠[],.raw (.bool (!r))):=rfl
end
@[simp] theorem hto_hto (H H':Heap):(st.hto H).hto H'=st.hto H':=rfl
def Fresh (H:Heap) (T:Nat):Prop:=∀k d,T≤k→H (k,d)=.unborn
theorem Fresh.set {H:Heap} {T T':Nat} {i:Id} {o:OK} (h:Fresh H T) (hT:T≤T') (hi:i.1<T'):Fresh (hset H i o) T':=fun k d hk=>by
 unfold hset
 rw [if_neg (fun e=>by rw [←e] at hi;simp at hi;omega)]
 exact h k d (by omega)
theorem Fresh.mono {H:Heap} {T T':Nat} (h:Fresh H T) (hT:T≤T'):Fresh H T':=fun k d hk=>h k d (by omega)
theorem Fresh.lt {H:Heap} {T:Nat} {i:Id} (h:Fresh H T) (hi:H i≠.unborn):i.1<T:=by
 rcases Nat.lt_or_ge i.1 T with q|q
 ·exact q
 ·exact (hi (h i.1 i.2 q)).elim
theorem Fresh.ne {H:Heap} {T:Nat} {i:Id} (h:Fresh H T) (hi:H i≠.unborn) (d:Nat):(T,d)≠i:=fun e=>by
 have:=h.lt hi
 rw [←e] at this
 simp at this
theorem Fresh.nee {H:Heap} {T:Nat} {i:Id} (h:Fresh H T) (hi:H i≠.unborn) (k d:Nat) (hk:T≤k):((k,d)=i)=False:=by
 have:=h.lt hi
 simp only [eq_iff_iff,iff_false]
 intro e
 rw [←e] at this
 simp at this;omega
theorem Fresh.nee' {H:Heap} {T:Nat} {i:Id} (h:Fresh H T) (hi:H i≠.unborn) (k d:Nat) (hk:T≤k):(i=(k,d))=False:=by
 have:=h.nee hi k d hk
 simp only [eq_iff_iff,iff_false] at this ⊢
 exact fun e=>this e.symm
theorem fresh_no:Fresh noHeap 0:=fun _ _ _=>rfl
end Go.AE
set_option linter.unusedVariables false
set_option linter.unusedSimpArgs false
set_option maxHeartbeats 2000000
namespace Go.AE
open Go Go.Proofs
theorem sector_ev {F:CT} (hF:CTok Tryz.prog F) (l:List UInt8):PEv Tryz.prog 69 [.c (.str l)] (.c (.raw (.bool (decide (l.length=32))))):=by
 refine tells_of mixed hF Tryz.func69 sl69 ok69 (by kernel_rfl) (by simp -implicitDefEqProofs) (by simp -implicitDefEqProofs) ?_
 simp -implicitDefEqProofs [s69,ty9,ty3,ty4,Tryz.results69]
 omega
theorem between_ev {F:CT} (hF:CTok Tryz.prog F) (n lo hi:Int):PEv Tryz.prog 51 [.c (.raw (.int .i64 n)),.c (.raw (.int .i64 lo)),.c (.raw (.int .i64 hi))] (.c (.raw (.bool (decide (lo≤n)&&decide (n≤hi))))):=by
 refine tells_of mixed hF Tryz.func51 sl51 ok51 (by kernel_rfl) (by simp -implicitDefEqProofs) (by simp -implicitDefEqProofs) ?_
 simp -implicitDefEqProofs [s51,ty9,ty3,ty4,Tryz.results51]
 omega
theorem eqStrings_ev {F:CT} (hF:CTok Tryz.prog F) (a b:List (List UInt8)) (ha:a.length<4611686018427387904):PEv Tryz.prog 62 [.c (.sl .brw false (rowsE a)),.c (.sl .brw false (rowsE b))] (.c (.raw (.bool (decide (a=b))))):=by
 refine tells_of mixed hF Tryz.func62 sl62 ok62 (by kernel_rfl) (by simp -implicitDefEqProofs) (by simp -implicitDefEqProofs) ?_
 simp -implicitDefEqProofs [s62,ty27,ty3,ty4,Tryz.results62]
 refine ⟨fun h e=>h (by rw [e]),fun hl=>?_⟩
 have hl:a.length=b.length:=by omega
 refine loop_n (fun n st=>∃i:Nat,i≤a.length∧n=a.length-i∧st.s 0=.c (.sl .brw false (rowsE a))∧st.s 1=.c (.sl .brw false (rowsE b))∧st.s 5=.c (.raw (.int .i64 i))∧a.take i=b.take i) a.length ⟨0,by simp -implicitDefEqProofs⟩ ?_
 rintro n st ⟨i,hi,rfl,h0,h1,h5,hp⟩
 by_cases hlt:i<a.length
 ·have hb:i<b.length:=by omega
  simp -implicitDefEqProofs [s62L0,h0,h1,h5,ty27,ty9,ty3,ty4,Tryz.results62,hlt,hb]
  refine ⟨fun hne e=>hne (by subst e;rfl),fun he=>⟨a.length-(i+1),by omega,i+1,by omega,rfl,?_,?_⟩⟩
  ·rw [wrap64_id (by omega) (by omega)];rfl
  ·exact eq_step hp hlt hb he
 ·simp -implicitDefEqProofs [s62L0,h0,h1,h5,ty27,ty9,ty3,ty4,Tryz.results62,hlt]
  have:i=a.length:=by omega
  rw [this,List.take_length,hl,List.take_length] at hp
  exact hp
theorem copyStrings_ev {F:CT} (hF:CTok Tryz.prog F) (l:List (List UInt8)) (hl:l.length<1000000):PEv Tryz.prog 58 [.c (.sl .brw false (rowsE l))] (.c (.nw 9 1 (rowsE l))):=by
 refine tells_of mixed hF Tryz.func58 sl58 ok58 (by kernel_rfl) (by simp -implicitDefEqProofs) (by simp -implicitDefEqProofs) ?_
 simp -implicitDefEqProofs [s58,ty27,ty3,ty4,Tryz.results58]
 refine loop_n (fun n st=>∃i:Nat,i≤l.length∧n=l.length-i∧st.s 0=.c (.sl .brw false (rowsE l))∧st.s 4=.c (.raw (.int .i64 i))∧Fresh st.H st.T∧
  ((st.s 3=.c (.raw (.slice none 0 0))∧i=0)∨∃id,st.s 3=.c (.so id 0 i)∧st.H id=.arr 9 1 false (rowsE (l.take i)))) l.length ⟨0,by simp -implicitDefEqProofs [fresh_no.mono]⟩ ?_
 rintro n st ⟨i,hi,rfl,h0,h4,hf,hown⟩
 have hff:=fun d=>hf (st.T+1) d (by omega)
 by_cases hlt:i<l.length
 ·have hw:IntKind.wrap .i64 ((i:Int)+1)=((i+1:Nat):Int):=by rw [wrap64_id]<;>omega
  have ht:rowsE (l.take (i+1))=rowsE (l.take i)++[Enc.row l[i]]:=by rw [rowsE_snoc,List.take_add_one];simp -implicitDefEqProofs [hlt]
  rcases hown with ⟨h3,rfl⟩|⟨id,h3,hid⟩
  ·simp -implicitDefEqProofs [s58L0,h0,h4,h3,ty27,ty9,ty3,ty4,hlt,hff]
   refine ⟨_,?_,1,?_,rfl,rfl,?_,_,_,⟨⟨rfl,rfl⟩,rfl⟩,?_⟩
   ·omega
   ·omega
   ·exact (hf.set (T':=st.T+2) (by omega) (by simp -implicitDefEqProofs)).set (by omega) (by simp -implicitDefEqProofs)
   ·simp -implicitDefEqProofs at ht;simp -implicitDefEqProofs [ht]
  ·have hne:=hf.nee (i:=id) (by rw [hid];simp -implicitDefEqProofs) (st.T+1)
   have hne':=hf.nee' (i:=id) (by rw [hid];simp -implicitDefEqProofs) (st.T+1)
   have hi2:(rowsE (l.take i)).length=i:=by simp -implicitDefEqProofs;omega
   simp -implicitDefEqProofs [s58L0,h0,h4,h3,ty27,ty9,ty3,ty4,hlt,hff,hid,hne,hne',hw,Nat.min_eq_left hi]
   refine ⟨by omega,_,?_,i+1,?_,rfl,rfl,?_,_,_,⟨⟨rfl,rfl⟩,rfl⟩,?_⟩
   ·omega
   ·omega
   ·exact ((hf.set (T':=st.T+2) (by omega) (by simp -implicitDefEqProofs)).set (T':=st.T+2) (by omega) (by have:=hf.lt (i:=id) (by rw [hid];simp -implicitDefEqProofs);omega)).set (by omega) (by simp -implicitDefEqProofs)
   ·simp -implicitDefEqProofs [ht]
 ·rcases hown with ⟨h3,rfl⟩|⟨id,h3,hid⟩
  ·simp -implicitDefEqProofs [s58L0,h0,h4,h3,ty27,ty9,ty3,ty4,Tryz.results58,hlt,hff]
   simpa using hlt
  ·have:i=l.length:=by omega
   subst this
   simp -implicitDefEqProofs [s58L0,h0,h4,h3,ty27,ty9,ty3,ty4,Tryz.results58,hlt,hff,hid]
end Go.AE
set_option linter.unusedVariables false
set_option linter.unusedSimpArgs false
namespace Go.AE
open Go
theorem loop_cut {P:Program} {F:CT} {x y:SC} {id:Nat} {Q Q':AEx→St→Prop} {st:St} (R:St→Prop) (hl:awpS P F x (ablock id (athen R Q')) st) (hy:∀st,R st→awpS P F y Q st) :
  awpS P F x (ablock id (athen (awpS P F y Q) Q')) st:=by
 refine awpS_mono (fun e st h=>?_) hl
 cases e with
 |normal=>exact hy st h
 |exit j=>
  simp only [ablock_e] at h ⊢
  split
  ·rename_i hj
   rw [if_pos hj] at h
   exact hy st h
  ·rename_i hj
   rw [if_neg hj] at h
   exact h
 |ret=>exact h
class Arg (α:Type) where
 enc:α→AV
 dec:AV→Option α
 dec_some:∀{x:AV} {a:α},dec x=some a→x=enc a
section
variable {P:Program} {α β γ δ:Type} [Arg α] [Arg β] [Arg γ] [Arg δ]
def t1 (C:α→Prop) (R:α→AV):List AV→Option (Prop×AV)
 |[x]=>(Arg.dec x).map fun a=>(C a,R a)
 |_=>none
def t2 (C:α→β→Prop) (R:α→β→AV):List AV→Option (Prop×AV)
 |[x,y]=>match Arg.dec x,Arg.dec y with
  |some a,some b=>some (C a b,R a b)
  |_,_=>none
 |_=>none
def t3 (C:α→β→γ→Prop) (R:α→β→γ→AV):List AV→Option (Prop×AV)
 |[x,y,z]=>match Arg.dec x,Arg.dec y,Arg.dec z with
  |some a,some b,some c=>some (C a b c,R a b c)
  |_,_,_=>none
 |_=>none
theorem tells1 {f:FuncId} {C:α→Prop} {R:α→AV} (h:∀a,C a→PEv P f [Arg.enc a] (R a)):Tells P f (t1 C R):=by
 intro args D ret he hD
 unfold t1 at he
 split at he
 ·rename_i x
  rw [Option.map_eq_some_iff] at he
  obtain ⟨a,h1,h2⟩:=he
  cases h2
  rw [Arg.dec_some h1]
  exact h a hD
 ·cases he
theorem tells2 {f:FuncId} {C:α→β→Prop} {R:α→β→AV} (h:∀a b,C a b→PEv P f [Arg.enc a,Arg.enc b] (R a b)):Tells P f (t2 C R):=by
 intro args D ret he hD
 unfold t2 at he
 split at he
 ·split at he
  ·rename_i a b h1 h2
   cases he
   rw [Arg.dec_some h1,Arg.dec_some h2]
   exact h a b hD
  ·cases he
 ·cases he
theorem tells3 {f:FuncId} {C:α→β→γ→Prop} {R:α→β→γ→AV} (h:∀a b c,C a b c→PEv P f [Arg.enc a,Arg.enc b,Arg.enc c] (R a b c)):Tells P f (t3 C R):=by
 intro args D ret he hD
 unfold t3 at he
 split at he
 ·split at he
  ·rename_i a b c h1 h2 h3
   cases he
   rw [Arg.dec_some h1,Arg.dec_some h2,Arg.dec_some h3]
   exact h a b c hD
  ·cases he
 ·cases he
end
@[simp] theorem t1_go {α:Type} [Arg α] {C:α→Prop} {R:α→AV} {x:AV}:t1 C R [x]=(Arg.dec x).map fun a=>(C a,R a):=rfl
@[simp] theorem t2_go {α β:Type} [Arg α] [Arg β] {C:α→β→Prop} {R:α→β→AV} {x y:AV}:t2 C R [x,y]=(match (Arg.dec x:Option α),(Arg.dec y:Option β) with
  |some a,some b=>some (C a b,R a b)
  |_,_=>none):=rfl
@[simp] theorem t3_go {α β γ:Type} [Arg α] [Arg β] [Arg γ] {C:α→β→γ→Prop} {R:α→β→γ→AV} {x y z:AV}:t3 C R [x,y,z]=(match (Arg.dec x:Option α),(Arg.dec y:Option β),(Arg.dec z:Option γ) with
  |some a,some b,some c=>some (C a b c,R a b c)
  |_,_,_=>none):=rfl
def t0 (R:AV):List AV→Option (Prop×AV)
 |[]=>some (True,R)
 |_=>none
@[simp] theorem t0_go {R:AV}:t0 R []=some (True,R):=rfl
theorem tells0 {P:Program} {f:FuncId} {R:AV} (h:PEv P f [] R):Tells P f (t0 R):=by
 intro args D ret he hD
 cases args with
 |nil=>cases he;exact h
 |cons a r=>cases he
def t4 {α β γ δ:Type} [Arg α] [Arg β] [Arg γ] [Arg δ] (C:α→β→γ→δ→Prop) (R:α→β→γ→δ→AV):List AV→Option (Prop×AV)
 |[x,y,z,u]=>match Arg.dec x,Arg.dec y,Arg.dec z,Arg.dec u with
  |some a,some b,some c,some d=>some (C a b c d,R a b c d)
  |_,_,_,_=>none
 |_=>none
@[simp] theorem t4_go {α β γ δ:Type} [Arg α] [Arg β] [Arg γ] [Arg δ] {C:α→β→γ→δ→Prop} {R:α→β→γ→δ→AV} {x y z u:AV}:t4 C R [x,y,z,u]=(match (Arg.dec x:Option α),(Arg.dec y:Option β),(Arg.dec z:Option γ),(Arg.dec u:Option δ) with
  |some a,some b,some c,some d=>some (C a b c d,R a b c d)
  |_,_,_,_=>none):=rfl
theorem tells4 {P:Program} {α β γ δ:Type} [Arg α] [Arg β] [Arg γ] [Arg δ] {f:FuncId} {C:α→β→γ→δ→Prop} {R:α→β→γ→δ→AV} (h:∀a b c d,C a b c d→PEv P f [Arg.enc a,Arg.enc b,Arg.enc c,Arg.enc d] (R a b c d)):Tells P f (t4 C R):=by
 intro args D ret he hD
 unfold t4 at he
 split at he
 ·split at he
  ·rename_i a b c d h1 h2 h3 h4
   cases he
   rw [Arg.dec_some h1,Arg.dec_some h2,Arg.dec_some h3,Arg.dec_some h4]
   exact h a b c d hD
  ·cases he
 ·cases he
instance argI:Arg Int where
 enc n:=.c (.raw (.int .i64 n))
 dec|.c (.raw (.int .i64 n))=>some n|_=>none
 dec_some {x a} h:=by split at h<;>simp_all
instance argS:Arg (List UInt8) where
 enc s:=.c (.str s)
 dec|.c (.str s)=>some s|_=>none
 dec_some {x a} h:=by split at h<;>simp_all
instance argL {α:Type} [Enc α]:Arg (List α) where
 enc l:=.c (.sl .brw false (rowsE l))
 dec|.c (.sl .brw false xs)=>decE xs|_=>none
 dec_some {x a} h:=by
  split at h
  ·rw [decE_some h]
  ·cases h
@[simp] theorem enc_I (n:Int):Arg.enc n=.c (.raw (.int .i64 n)):=rfl
@[simp] theorem enc_S (s:List UInt8):Arg.enc s=.c (.str s):=rfl
@[simp] theorem enc_L {α:Type} [Enc α] (l:List α):@Arg.enc (List α) argL l=.c (.sl .brw false (rowsE l)):=rfl
@[simp] theorem dec_I (n:Int):Arg.dec (.c (.raw (.int .i64 n)))=some n:=rfl
@[simp] theorem dec_S (s:List UInt8):(Arg.dec (.c (.str s)):Option (List UInt8))=some s:=rfl
@[simp] theorem dec_L {α:Type} [Enc α] (l:List α):@Arg.dec (List α) argL (.c (.sl .brw false (rowsE l)))=some l:=decE_rows l
@[simp] theorem dec_L0 {α:Type} [Enc α]:@Arg.dec (List α) argL (.c (.sl .brw false []))=some []:=rfl
end Go.AE
set_option linter.unusedVariables false
namespace Go.AE
open Go
structure Sect where
 at_:Int
 text:List UInt8
 deriving DecidableEq
instance encSect:Enc Sect where
 w:=2
 row s:=[.raw (.int .i64 s.at_),.str s.text]
 dec|[.raw (.int .i64 n),.str t]=>some ⟨n,t⟩|_=>none
 dec_row _:=rfl
 row_dec {r a} h:=by split at h<;>simp_all;subst h;exact ⟨rfl,rfl⟩
 len _:=rfl
 old a c hc:=by simp -implicitDefEqProofs at hc;rcases hc with rfl|rfl<;>constructor
 ret a c hc:=by simp -implicitDefEqProofs at hc;rcases hc with rfl|rfl<;>constructor
@[simp] theorem row_Sect (s:Sect):Enc.row s=[AC.raw (.int .i64 s.at_),AC.str s.text]:=rfl
@[simp] theorem w_Sect:Enc.w Sect=2:=rfl
structure DiskV where
 safe:List (List UInt8)
 wait:List Sect
 deriving DecidableEq
theorem Sect.ext_iff' {a b:Sect}:a=b↔a.at_=b.at_∧a.text=b.text:=by
 cases a;cases b;simp -implicitDefEqProofs
end Go.AE
set_option linter.unusedVariables false
set_option linter.unusedSimpArgs false
set_option maxHeartbeats 2000000
namespace Go.AE
open Go Go.Proofs
theorem eqSectors_ev {F:CT} (hF:CTok Tryz.prog F) (a b:List Sect) (ha:a.length<4611686018427387904):PEv Tryz.prog 63 [.c (.sl .brw false (rowsE a)),.c (.sl .brw false (rowsE b))] (.c (.raw (.bool (decide (a=b))))):=by
 refine tells_of mixed hF Tryz.func63 sl63 ok63 (by kernel_rfl) (by simp -implicitDefEqProofs) (by simp -implicitDefEqProofs) ?_
 simp -implicitDefEqProofs [s63,ty28,ty88,ty3,ty4,Tryz.results63]
 refine ⟨fun h e=>h (by rw [e]),fun hl=>?_⟩
 have hl:a.length=b.length:=by omega
 refine loop_n (fun n st=>∃i:Nat,i≤a.length∧n=a.length-i∧st.s 0=.c (.sl .brw false (rowsE a))∧st.s 1=.c (.sl .brw false (rowsE b))∧st.s 5=.c (.raw (.int .i64 i))∧a.take i=b.take i) a.length ⟨0,by simp -implicitDefEqProofs⟩ ?_
 rintro n st ⟨i,hi,rfl,h0,h1,h5,hp⟩
 by_cases hlt:i<a.length
 ·have hb:i<b.length:=by omega
  simp -implicitDefEqProofs [s63L0,h0,h1,h5,ty28,ty88,ty3,ty4,Tryz.results63,hlt,hb]
  refine ⟨by rintro hne rfl;simp -implicitDefEqProofs at hne,fun he he2=>⟨a.length-(i+1),by omega,i+1,by omega,rfl,?_,?_⟩⟩
  ·rw [wrap64_id (by omega) (by omega)];rfl
  ·exact eq_step hp hlt hb (Sect.ext_iff'.2 ⟨he,he2⟩)
 ·simp -implicitDefEqProofs [s63L0,h0,h1,h5,ty28,ty88,ty3,ty4,Tryz.results63,hlt]
  have:i=a.length:=by omega
  rw [this,List.take_length,hl,List.take_length] at hp
  exact hp
theorem copySectors_ev {F:CT} (hF:CTok Tryz.prog F) (l:List Sect) (hl:l.length<1000000):PEv Tryz.prog 59 [.c (.sl .brw false (rowsE l))] (.c (.nw 88 2 (rowsE l))):=by
 refine tells_of mixed hF Tryz.func59 sl59 ok59 (by kernel_rfl) (by simp -implicitDefEqProofs) (by simp -implicitDefEqProofs) ?_
 simp -implicitDefEqProofs [s59,ty28,ty88,ty3,ty4,Tryz.results59]
 refine loop_n (fun n st=>∃i:Nat,i≤l.length∧n=l.length-i∧st.s 0=.c (.sl .brw false (rowsE l))∧st.s 4=.c (.raw (.int .i64 i))∧Fresh st.H st.T∧
  ((st.s 3=.c (.raw (.slice none 0 0))∧i=0)∨∃id,st.s 3=.c (.so id 0 i)∧st.H id=.arr 88 2 false (rowsE (l.take i)))) l.length ⟨0,by simp -implicitDefEqProofs [fresh_no.mono]⟩ ?_
 rintro n st ⟨i,hi,rfl,h0,h4,hf,hown⟩
 have hff:=fun d=>hf (st.T+1) d (by omega)
 by_cases hlt:i<l.length
 ·have hw:IntKind.wrap .i64 ((i:Int)+1)=((i+1:Nat):Int):=by rw [wrap64_id]<;>omega
  have ht:rowsE (l.take (i+1))=rowsE (l.take i)++[Enc.row l[i]]:=by rw [rowsE_snoc,List.take_add_one];simp -implicitDefEqProofs [hlt]
  rcases hown with ⟨h3,rfl⟩|⟨id,h3,hid⟩
  ·simp -implicitDefEqProofs [s59L0,h0,h4,h3,ty28,ty88,ty3,ty4,hlt,hff]
   refine ⟨_,?_,1,?_,rfl,rfl,?_,_,_,⟨⟨rfl,rfl⟩,rfl⟩,?_⟩
   ·omega
   ·omega
   ·exact (hf.set (T':=st.T+2) (by omega) (by simp -implicitDefEqProofs)).set (by omega) (by simp -implicitDefEqProofs)
   ·simp -implicitDefEqProofs at ht;simp -implicitDefEqProofs [ht]
  ·have hne:=hf.nee (i:=id) (by rw [hid];simp -implicitDefEqProofs) (st.T+1)
   have hne':=hf.nee' (i:=id) (by rw [hid];simp -implicitDefEqProofs) (st.T+1)
   simp -implicitDefEqProofs [s59L0,h0,h4,h3,ty28,ty88,ty3,ty4,hlt,hff,hid,hne,hne',hw,Nat.min_eq_left hi]
   refine ⟨by omega,_,?_,i+1,?_,rfl,rfl,?_,_,_,⟨⟨rfl,rfl⟩,rfl⟩,?_⟩
   ·omega
   ·omega
   ·exact ((hf.set (T':=st.T+2) (by omega) (by simp -implicitDefEqProofs)).set (T':=st.T+2) (by omega) (by have:=hf.lt (i:=id) (by rw [hid];simp -implicitDefEqProofs);omega)).set (by omega) (by simp -implicitDefEqProofs)
   ·simp -implicitDefEqProofs [ht]
 ·rcases hown with ⟨h3,rfl⟩|⟨id,h3,hid⟩
  ·simp -implicitDefEqProofs [s59L0,h0,h4,h3,ty28,ty88,ty3,ty4,Tryz.results59,hlt,hff]
   simpa using hlt
  ·have:i=l.length:=by omega
   subst this
   simp -implicitDefEqProofs [s59L0,h0,h4,h3,ty28,ty88,ty3,ty4,Tryz.results59,hlt,hff,hid]
end Go.AE
set_option linter.unusedVariables false
set_option linter.unusedSimpArgs false
set_option maxHeartbeats 2000000
namespace Go.AE
open Go Go.Proofs
def F1_h69:List AV→Option (Prop×AV):=t1 (fun _=>True) fun l:List UInt8=>.c (.raw (.bool (decide (l.length=32))))
@[simp] theorem F1_ap69 {l:List AV}:F1_h69 l=(t1 (fun _=>True) fun l:List UInt8=>.c (.raw (.bool (decide (l.length=32))))) l:=rfl
def F1_h62:List AV→Option (Prop×AV):=t2 (fun a _=>a.length<4611686018427387904) fun (a b:List (List UInt8))=>.c (.raw (.bool (decide (a=b))))
@[simp] theorem F1_ap62 {l:List AV}:F1_h62 l=(t2 (fun a _=>a.length<4611686018427387904) fun (a b:List (List UInt8))=>.c (.raw (.bool (decide (a=b))))) l:=rfl
def F1_h63:List AV→Option (Prop×AV):=t2 (fun a _=>a.length<4611686018427387904) fun (a b:List Sect)=>.c (.raw (.bool (decide (a=b))))
@[simp] theorem F1_ap63 {l:List AV}:F1_h63 l=(t2 (fun a _=>a.length<4611686018427387904) fun (a b:List Sect)=>.c (.raw (.bool (decide (a=b))))) l:=rfl
def F1_h58:List AV→Option (Prop×AV):=t1 (fun l=>l.length<1000000) fun l:List (List UInt8)=>.c (.nw 9 1 (rowsE l))
@[simp] theorem F1_ap58 {l:List AV}:F1_h58 l=(t1 (fun l=>l.length<1000000) fun l:List (List UInt8)=>.c (.nw 9 1 (rowsE l))) l:=rfl
def F1_h59:List AV→Option (Prop×AV):=t1 (fun l=>l.length<1000000) fun l:List Sect=>.c (.nw 88 2 (rowsE l))
@[simp] theorem F1_ap59 {l:List AV}:F1_h59 l=(t1 (fun l=>l.length<1000000) fun l:List Sect=>.c (.nw 88 2 (rowsE l))) l:=rfl
def F1_h51:List AV→Option (Prop×AV):=t3 (fun _ _ _=>True) fun n lo hi:Int=>.c (.raw (.bool (decide (lo≤n)&&decide (n≤hi))))
@[simp] theorem F1_ap51 {l:List AV}:F1_h51 l=(t3 (fun _ _ _=>True) fun n lo hi:Int=>.c (.raw (.bool (decide (lo≤n)&&decide (n≤hi))))) l:=rfl
def F1:CT:=(69,.pu F1_h69)::(62,.pu F1_h62)::(63,.pu F1_h63)::(58,.pu F1_h58)::(59,.pu F1_h59)::(51,.pu F1_h51)::[]
theorem F1_ok:CTok Tryz.prog F1:=⟨tells1 fun l _=>sector_ev (F:=[]) trivial l,
 tells2 fun a b h=>eqStrings_ev (F:=[]) trivial a b h,
 tells2 fun a b h=>eqSectors_ev (F:=[]) trivial a b h,
 tells1 fun l h=>copyStrings_ev (F:=[]) trivial l h,
 tells1 fun l h=>copySectors_ev (F:=[]) trivial l h,
 tells3 fun n lo hi _=>between_ev (F:=[]) trivial n lo hi,trivial⟩
@[simp] theorem F1_get69:ctGet F1 69=some (.pu F1_h69):=rfl
@[simp] theorem F1_get62:ctGet F1 62=some (.pu F1_h62):=rfl
@[simp] theorem F1_get63:ctGet F1 63=some (.pu F1_h63):=rfl
@[simp] theorem F1_get58:ctGet F1 58=some (.pu F1_h58):=rfl
@[simp] theorem F1_get59:ctGet F1 59=some (.pu F1_h59):=rfl
@[simp] theorem F1_get51:ctGet F1 51=some (.pu F1_h51):=rfl
@[simp] theorem F1_skip {n:Nat} (h:(n==69||n==62||n==63||n==58||n==59||n==51)=false):ctGet F1 n=ctGet ([]:CT) n:=by
 simp only [Bool.or_eq_false_iff,beq_eq_false_iff_ne,ne_eq] at h
 simp [F1,ctGet,h]
instance argDisk:Arg DiskV where
 enc d:=.g [.sl .brw false (rowsE d.safe),.sl .brw false (rowsE d.wait)]
 dec|.g [.sl .brw false a,.sl .brw false b]=>(match decE a,decE b with|some a,some b=>some ⟨a,b⟩|_,_=>none)|_=>none
 dec_some {x d} h:=by
  split at h
  ·split at h
   ·rename_i h1 h2
    cases h
    rw [decE_some h1,decE_some h2]
   ·cases h
  ·cases h
@[simp] theorem enc_Disk (d:DiskV):Arg.enc d=.g [.sl .brw false (rowsE d.safe),.sl .brw false (rowsE d.wait)]:=rfl
@[simp] theorem dec_Disk (a:List (List UInt8)) (b:List Sect):Arg.dec (.g [.sl .brw false (rowsE a),.sl .brw false (rowsE b)])=some (DiskV.mk a b):=by
 show (match decE (rowsE a),decE (rowsE b) with|some a,some b=>some (DiskV.mk a b)|_,_=>none)=_
 simp -implicitDefEqProofs
def diskNw (d:DiskV):List AC:=[.nw 9 1 (rowsE d.safe),.nw 88 2 (rowsE d.wait)]
theorem eqDisk_ev (a b:DiskV) (h1:a.safe.length<4611686018427387904) (h2:a.wait.length<4611686018427387904):PEv Tryz.prog 27 [Arg.enc a,Arg.enc b] (.c (.raw (.bool (decide (a=b))))):=by
 refine tells_of mixed F1_ok Tryz.func27 sl27 ok27 (by kernel_rfl) (by simp -implicitDefEqProofs) (by simp -implicitDefEqProofs) ?_
 simp -implicitDefEqProofs [s27,ty30,ty27,ty28,ty3,ty4,ty88,Tryz.results27,h1,h2]
 cases a;cases b
 simp -implicitDefEqProofs
 exact ⟨fun h _=>h,fun h h'=>(h h').elim⟩
theorem copyDisk_ev (d:DiskV) (h1:d.safe.length<1000000) (h2:d.wait.length<1000000):PEv Tryz.prog 23 [Arg.enc d] (.g (diskNw d)):=by
 refine tells_of mixed F1_ok Tryz.func23 sl23 ok23 (by kernel_rfl) (by simp -implicitDefEqProofs [diskNw]) (by simp -implicitDefEqProofs) ?_
 simp -implicitDefEqProofs [s23,ty30,ty27,ty28,ty3,ty4,ty88,h1,h2,Tryz.results23,diskNw]
end Go.AE
set_option linter.unusedVariables false
set_option linter.unusedSimpArgs false
namespace Go.AE
open Go
structure ElemV where
 site:Int
 seq:Int
 i:Int
 deriving DecidableEq
instance encElem:Enc ElemV where
 w:=3
 row e:=[.raw (.int .i64 e.site),.raw (.int .i64 e.seq),.raw (.int .i64 e.i)]
 dec|[.raw (.int .i64 a),.raw (.int .i64 b),.raw (.int .i64 c)]=>some ⟨a,b,c⟩|_=>none
 dec_row _:=rfl
 row_dec {r a} h:=by split at h<;>simp_all;subst h;exact ⟨rfl,rfl,rfl⟩
 len _:=rfl
 old a c hc:=by simp -implicitDefEqProofs (maxSteps:=400000) (maxDischargeDepth:=6) at hc;rcases hc with rfl|rfl|rfl<;>constructor
 ret a c hc:=by simp -implicitDefEqProofs (maxSteps:=400000) (maxDischargeDepth:=6) at hc;rcases hc with rfl|rfl|rfl<;>constructor
@[simp] theorem row_Elem (e:ElemV):Enc.row e=[AC.raw (.int .i64 e.site),AC.raw (.int .i64 e.seq),AC.raw (.int .i64 e.i)]:=rfl
@[simp] theorem w_Elem:Enc.w ElemV=3:=rfl
structure OpV where
 site:Int
 seq:Int
 kind:Int
 after:ElemV
 text:List UInt8
 gone:List ElemV
 of_:Int
 num:Int
 gen:Int
 deriving DecidableEq
def opRow (t:Tag) (o:OpV):List AC:=
 [.raw (.int .i64 o.site),.raw (.int .i64 o.seq),.raw (.int .i64 o.kind),.raw (.int .i64 o.after.site),.raw (.int .i64 o.after.seq),.raw (.int .i64 o.after.i),.str o.text,.sl t false (rowsE o.gone),.raw (.int .i64 o.of_),.raw (.int .i64 o.num),.raw (.int .i64 o.gen)]
def opDec (t:Tag):List AC→Option OpV
 |[.raw (.int .i64 a),.raw (.int .i64 b),.raw (.int .i64 c),.raw (.int .i64 d),.raw (.int .i64 e),.raw (.int .i64 f),.str s,.sl t' false g,.raw (.int .i64 h),.raw (.int .i64 i),.raw (.int .i64 j)]=>
  if t'=t then (decE g).map fun g=>⟨a,b,c,⟨d,e,f⟩,s,g,h,i,j⟩ else none
 |_=>none
theorem opDec_row (t:Tag) (o:OpV):opDec t (opRow t o)=some o:=by
 unfold opDec opRow
 simp -implicitDefEqProofs (maxSteps:=400000) (maxDischargeDepth:=6)
theorem opRow_dec {t:Tag} {r:List AC} {o:OpV} (h:opDec t r=some o):r=opRow t o:=by
 unfold opDec at h
 split at h
 ·split at h
  ·rename_i ht
   subst ht
   rw [Option.map_eq_some_iff] at h
   obtain ⟨g,hg,rfl⟩:=h
   rw [decE_some hg]
   rfl
  ·cases h
 ·cases h
theorem opRow_len (t:Tag) (o:OpV):(opRow t o).length=11:=rfl
instance encOp:Enc OpV where
 w:=11
 row:=opRow .old
 dec:=opDec .old
 dec_row:=opDec_row .old
 row_dec:=opRow_dec
 len:=opRow_len .old
 old a c hc:=by simp -implicitDefEqProofs (maxSteps:=400000) (maxDischargeDepth:=6) [opRow] at hc;rcases hc with rfl|rfl|rfl|rfl|rfl|rfl|rfl|rfl|rfl|rfl|rfl<;>simp -implicitDefEqProofs (maxSteps:=400000) (maxDischargeDepth:=6) [oldOK_raw,oldOK_str,oldOK_sl]
 ret a c hc:=by simp -implicitDefEqProofs (maxSteps:=400000) (maxDischargeDepth:=6) [opRow] at hc;rcases hc with rfl|rfl|rfl|rfl|rfl|rfl|rfl|rfl|rfl|rfl|rfl<;>simp -implicitDefEqProofs (maxSteps:=400000) (maxDischargeDepth:=6) [retOK_raw,retOK_str,retOK_sl]
@[simp] theorem row_Op (o:OpV):Enc.row o=opRow .old o:=rfl
@[simp] theorem w_Op:Enc.w OpV=11:=rfl
structure EntryV where
 join:Bool
 nonce:Int
 op:OpV
 deriving DecidableEq
def entRow (t:Tag) (e:EntryV):List AC:=.raw (.bool e.join)::.raw (.int .i64 e.nonce)::opRow t e.op
def entDec (t:Tag):List AC→Option EntryV
 |.raw (.bool j)::.raw (.int .i64 n)::r=>(opDec t r).map fun o=>⟨j,n,o⟩
 |_=>none
theorem entDec_row (t:Tag) (e:EntryV):entDec t (entRow t e)=some e:=by simp -implicitDefEqProofs (maxSteps:=400000) (maxDischargeDepth:=6) [entDec,entRow,opDec_row]
theorem entRow_dec {t:Tag} {r:List AC} {e:EntryV} (h:entDec t r=some e):r=entRow t e:=by
 unfold entDec at h
 split at h
 ·rw [Option.map_eq_some_iff] at h
  obtain ⟨o,ho,rfl⟩:=h
  rw [opRow_dec ho]
  rfl
 ·cases h
instance encEntry:Enc EntryV where
 w:=13
 row:=entRow .old
 dec:=entDec .old
 dec_row:=entDec_row .old
 row_dec:=entRow_dec
 len _:=rfl
 old a c hc:=by simp -implicitDefEqProofs (maxSteps:=400000) (maxDischargeDepth:=6) [entRow,opRow] at hc;rcases hc with rfl|rfl|rfl|rfl|rfl|rfl|rfl|rfl|rfl|rfl|rfl|rfl|rfl<;>simp -implicitDefEqProofs (maxSteps:=400000) (maxDischargeDepth:=6) [oldOK_raw,oldOK_str,oldOK_sl]
 ret a c hc:=by simp -implicitDefEqProofs (maxSteps:=400000) (maxDischargeDepth:=6) [entRow,opRow] at hc;rcases hc with rfl|rfl|rfl|rfl|rfl|rfl|rfl|rfl|rfl|rfl|rfl|rfl|rfl<;>simp -implicitDefEqProofs (maxSteps:=400000) (maxDischargeDepth:=6) [retOK_raw,retOK_str,retOK_sl]
@[simp] theorem row_Entry (e:EntryV):Enc.row e=entRow .old e:=rfl
@[simp] theorem w_Entry:Enc.w EntryV=13:=rfl
instance argElem:Arg ElemV where
 enc e:=.g (Enc.row e)
 dec|.g r=>Enc.dec r|_=>none
 dec_some {x a} h:=by
  split at h
  ·rw [Enc.row_dec h]
  ·cases h
instance argOp:Arg OpV where
 enc o:=.g (opRow .brw o)
 dec|.g r=>opDec .brw r|_=>none
 dec_some {x a} h:=by
  split at h
  ·rw [opRow_dec h]
  ·cases h
instance argEntry:Arg EntryV where
 enc e:=.g (entRow .brw e)
 dec|.g r=>entDec .brw r|_=>none
 dec_some {x a} h:=by
  split at h
  ·rw [entRow_dec h]
  ·cases h
instance argB:Arg Bool where
 enc b:=.c (.raw (.bool b))
 dec|.c (.raw (.bool b))=>some b|_=>none
 dec_some {x a} h:=by split at h<;>simp_all
@[simp] theorem enc_B (b:Bool):Arg.enc b=.c (.raw (.bool b)):=rfl
@[simp] theorem dec_B (b:Bool):(Arg.dec (.c (.raw (.bool b))):Option Bool)=some b:=rfl
@[simp] theorem enc_Elem (e:ElemV):Arg.enc e=.g [AC.raw (.int .i64 e.site),AC.raw (.int .i64 e.seq),AC.raw (.int .i64 e.i)]:=rfl
@[simp] theorem dec_Elem (a b c:Int):(Arg.dec (.g [AC.raw (.int .i64 a),AC.raw (.int .i64 b),AC.raw (.int .i64 c)]):Option ElemV)=some ⟨a,b,c⟩:=rfl
@[simp] theorem enc_Op (o:OpV):Arg.enc o=.g (opRow .brw o):=rfl
@[simp] theorem dec_Op (a b c d e f:Int) (s:List UInt8) (g:List ElemV) (h i j:Int) :
  (Arg.dec (.g [.raw (.int .i64 a),.raw (.int .i64 b),.raw (.int .i64 c),.raw (.int .i64 d),.raw (.int .i64 e),.raw (.int .i64 f),.str s,.sl .brw false (rowsE g),.raw (.int .i64 h),.raw (.int .i64 i),.raw (.int .i64 j)]):Option OpV) =
   some ⟨a,b,c,⟨d,e,f⟩,s,g,h,i,j⟩:=opDec_row .brw ⟨a,b,c,⟨d,e,f⟩,s,g,h,i,j⟩
@[simp] theorem dec_Op0 (a b c d e f:Int) (s:List UInt8) (h i j:Int) :
  (Arg.dec (.g [.raw (.int .i64 a),.raw (.int .i64 b),.raw (.int .i64 c),.raw (.int .i64 d),.raw (.int .i64 e),.raw (.int .i64 f),.str s,.sl .brw false [],.raw (.int .i64 h),.raw (.int .i64 i),.raw (.int .i64 j)]):Option OpV) =
   some ⟨a,b,c,⟨d,e,f⟩,s,[],h,i,j⟩:=opDec_row .brw ⟨a,b,c,⟨d,e,f⟩,s,[],h,i,j⟩
@[simp] theorem dec_Opo (o:OpV):(Arg.dec (.g (opRow .brw o)):Option OpV)=some o:=opDec_row .brw o
@[simp high] theorem dec_Opp (o:OpV):(Arg.dec (.g [.raw (.int .i64 o.site),.raw (.int .i64 o.seq),.raw (.int .i64 o.kind),.raw (.int .i64 o.after.site),.raw (.int .i64 o.after.seq),.raw (.int .i64 o.after.i),.str o.text,.sl .brw false (rowsE o.gone),.raw (.int .i64 o.of_),.raw (.int .i64 o.num),.raw (.int .i64 o.gen)]):Option OpV)=some o:=opDec_row .brw o
@[simp] theorem enc_Entry (e:EntryV):Arg.enc e=.g (entRow .brw e):=rfl
@[simp] theorem dec_Entry (j:Bool) (n a b c d e f:Int) (s:List UInt8) (g:List ElemV) (h i k:Int) :
  (Arg.dec (.g [.raw (.bool j),.raw (.int .i64 n),.raw (.int .i64 a),.raw (.int .i64 b),.raw (.int .i64 c),.raw (.int .i64 d),.raw (.int .i64 e),.raw (.int .i64 f),.str s,.sl .brw false (rowsE g),.raw (.int .i64 h),.raw (.int .i64 i),.raw (.int .i64 k)]):Option EntryV) =
   some ⟨j,n,a,b,c,⟨d,e,f⟩,s,g,h,i,k⟩:=entDec_row .brw ⟨j,n,a,b,c,⟨d,e,f⟩,s,g,h,i,k⟩
@[simp] theorem dec_Entry0 (j:Bool) (n a b c d e f:Int) (s:List UInt8) (h i k:Int) :
  (Arg.dec (.g [.raw (.bool j),.raw (.int .i64 n),.raw (.int .i64 a),.raw (.int .i64 b),.raw (.int .i64 c),.raw (.int .i64 d),.raw (.int .i64 e),.raw (.int .i64 f),.str s,.sl .brw false [],.raw (.int .i64 h),.raw (.int .i64 i),.raw (.int .i64 k)]):Option EntryV) =
   some ⟨j,n,a,b,c,⟨d,e,f⟩,s,[],h,i,k⟩:=entDec_row .brw ⟨j,n,a,b,c,⟨d,e,f⟩,s,[],h,i,k⟩
@[simp] theorem dec_Ento (e:EntryV):(Arg.dec (.g (entRow .brw e)):Option EntryV)=some e:=entDec_row .brw e
@[simp high] theorem dec_Entp (e:EntryV):(Arg.dec (.g [.raw (.bool e.join),.raw (.int .i64 e.nonce),.raw (.int .i64 e.op.site),.raw (.int .i64 e.op.seq),.raw (.int .i64 e.op.kind),.raw (.int .i64 e.op.after.site),.raw (.int .i64 e.op.after.seq),.raw (.int .i64 e.op.after.i),.str e.op.text,.sl .brw false (rowsE e.op.gone),.raw (.int .i64 e.op.of_),.raw (.int .i64 e.op.num),.raw (.int .i64 e.op.gen)]):Option EntryV)=some e:=entDec_row .brw e
end Go.AE
set_option linter.unusedVariables false
set_option linter.unusedSimpArgs false
namespace Go.AE
open Go
variable {P:Program}
def enterS (st:St) (args:List AV):St:={s:=fun t=>args.getD t (.c (.raw undef)),H:=st.H,T:=st.T+1}
def finR (P:Program) (fn:Func) (R:AV→Heap→Nat→Prop) (e:AEx) (st:St):Prop:=
 (match e with|.normal|.ret=>True|_=>False)∧∃res,resA P st fn.results.toList=some res∧R res st.H st.T
theorem RelH.ctx {C:Ctx P} {H:Heap} {ρ:Lies} {w:World} (h:RelH C H ρ w) (X:World→(Tag→Nat→Prop)→Heap→Lies→Prop)
  (keepX:∀{w w':World} {F F':Tag→Nat→Prop} {H H':Heap} {ρ ρ':Lies},Keeps w w' F F' H H' ρ ρ'→X w F H ρ→X w' F' H' ρ'):RelH (P:=P) ⟨C.w0,C.hI,C.G,X,keepX⟩ H ρ w:=
 ⟨h.below,h.row,h.inj,h.fin⟩
theorem RelH.unctx {C:Ctx P} {H:Heap} {ρ:Lies} {w:World} {X:World→(Tag→Nat→Prop)→Heap→Lies→Prop}
  {keepX:∀{w w':World} {F F':Tag→Nat→Prop} {H H':Heap} {ρ ρ':Lies},Keeps w w' F F' H H' ρ ρ'→X w F H ρ→X w' F' H' ρ'} (h:RelH (P:=P) ⟨C.w0,C.hI,C.G,X,keepX⟩ H ρ w):RelH C H ρ w:=
 ⟨h.below,h.row,h.inj,h.fin⟩
theorem callK_of {calm:Array Oper→Bool} (hcalm:CalmOK P calm) {f:FuncId} {fn:Func} {c:Code} {st:St} {args:List AV} {R:AV→Heap→Nat→Prop} (hf:P.funcs[f]?=some fn) (hb:fn.body=some c)
  (hok:fnOK calm fn args.length=true) (h:awp P c (finR P fn R) (enterS st args)):CallK P st f args R:=by
 simp only [fnOK,hb,Bool.and_eq_true,decide_eq_true_eq,bne_iff_ne,ne_eq] at hok
 obtain ⟨⟨hname,hcode⟩,hle⟩:=hok
 refine ⟨by simp [okCall,hf,hb,hname],fun C ρ a w vs hr hsz hargs=>?_⟩
 let X:World→(Tag→Nat→Prop)→Heap→Lies→Prop:=fun w F H ρ=>C.X w F H ρ∧∀t,RelV w F H ρ (st.s t) (a.tmps.getD t undef)
 let C':Ctx P:=⟨C.w0,C.hI,C.G,X,fun k q=>⟨C.keepX k q.1,fun t=>(q.2 t).keep k⟩⟩
 have h0:Rel C' ρ (enterS st args) {tmps:=vs++Array.replicate (fn.ntmps-vs.size) undef,defers:=[]} w:=by
  refine ⟨hr.heap.ctx X _,fun t=>?_,rfl,⟨hr.ghost,hr.slot⟩⟩
  simp only [enterS]
  by_cases ht:t<args.length
  ·have h1:args[t]?=some (args.getD t (.c (.raw undef))):=by simp [ht]
   have h2:(vs++Array.replicate (fn.ntmps-vs.size) undef).getD t undef=vs.getD t undef:=by
    simp [Array.getD_eq_getD_getElem?,Array.getElem?_append,show t<vs.size by omega]
   rw [h2];exact hargs t _ h1
  ·have h1:args.getD t (.c (.raw undef))=.c (.raw undef):=by simp [List.getD,List.getElem?_eq_none (Nat.le_of_not_lt ht)]
   have h2:(vs++Array.replicate (fn.ntmps-vs.size) undef).getD t undef=undef:=by
    simp only [Array.getD_eq_getD_getElem?,Array.getElem?_append,show ¬t<vs.size by omega,if_false,Array.getElem?_replicate]
    split<;>rfl
   rw [h1,h2];exact .c _ _ (.raw _)
 refine calls_of_wp hf hb (Code.wp_mono (fun e a' w' q=>?_) (awp_sound calm hcalm c fn.ntmps _ ρ (enterS st args) _ w hcode (by simp;omega) h0 h))
 have fin:SemK C' fn.ntmps (fun st'=>∃res,resA P st' fn.results.toList=some res∧R res st'.H st'.T) a' w'→
   a'.defers=[]∧∃v,(results fn a'.tmps).run P w'=.ok v w'∧(∃v',Ending.returned v=.returned v'∧∃ρ' ret H' T',Rel C ρ' (st.back H' T') a w'∧RelV w' (Fr C H' ρ') H' ρ' ret v'∧R ret H' T'):=
  fun ⟨_,ρ',st',hr',res,g1,g2⟩=>by
   obtain ⟨v,h1,h2⟩:=resA_sound hr' g1
   exact ⟨hr'.nodef,v,h1,v,rfl,ρ',res,st'.H,st'.T,⟨hr'.heap.unctx,hr'.ghost.2,hr.nodef,hr'.ghost.1⟩,h2,g2⟩
 cases e with
 |normal=>exact fin (SemK.mono q fun st hs=>hs.2)
 |ret=>exact fin (SemK.mono q fun st hs=>hs.2)
 |exit id=>
  obtain ⟨_,_,_,_,hs⟩:=q
  exact hs.1.elim
 |_=>exact q.elim
end Go.AE
set_option linter.unusedVariables false
set_option linter.unusedSimpArgs false
namespace Go.AE
open Go
variable {P:Program}
theorem CallK.mono {st:St} {f:FuncId} {args:List AV} {R R':AV→Heap→Nat→Prop} (hr:∀ret H T,R ret H T→R' ret H T) (h:CallK P st f args R):CallK P st f args R':=
 ⟨h.1,fun C ρ a w vs q1 q2 q3=>(h.2 C ρ a w vs q1 q2 q3).mono fun e w' ⟨v,e1,ρ',ret,H',T',g1,g2,g3⟩=>⟨v,e1,ρ',ret,H',T',g1,g2,hr _ _ _ g3⟩⟩
theorem callK_slim (hm:P.follows .mixedOrders=true) {F:CT} (hF:CTok P F) {f:FuncId} {fn:Func} {s:SC} {st:St} {args:List AV} {R:AV→Heap→Nat→Prop} (hf:P.funcs[f]?=some fn) (hs:slimK fn.body s=some (unK s,true))
  (hok:fnOK calmB fn 0=true) (hle:Nat.ble args.length fn.ntmps=true) (h:awpS P F s (finR P fn R) (enterS st args)):CallK P st f args R:=by
 cases hb:fn.body with
 |none=>rw [hb] at hs;cases hs
 |some c=>
  rw [hb] at hs
  simp only [slimK,Option.map_some,Option.some.injEq,Prod.mk.injEq] at hs
  refine callK_of (calm_ok hm) hf hb ?_ (awpS_sound hF hs.1 hs.2 h)
  simp only [fnOK,hb,Bool.and_eq_true] at hok ⊢
  exact ⟨hok.1,by simpa using Nat.le_of_ble_eq_true hle⟩
theorem acall_k {st:St} {dst:Option Nat} {f:FuncId} {args:List AV} {R:AV→Heap→Nat→Prop} {K:St→Prop} (h:CallK P st f args R) (hk:∀ret H T,R ret H T→K ((st.back H T).put dst ret)):ACall P false st dst f args K:=
 .inr ⟨rfl,h.mono hk⟩
theorem acall_in (hm:P.follows .mixedOrders=true) {F:CT} (hF:CTok P F) {f:FuncId} {fn:Func} {s:SC} {st:St} {args:List AV} {dst:Option Nat} {K:St→Prop} (hf:P.funcs[f]?=some fn) (hs:slimK fn.body s=some (unK s,true))
  (hok:fnOK calmB fn 0=true) (hle:Nat.ble args.length fn.ntmps=true) (h:awpS P F s (finR P fn fun ret H T=>K ((st.back H T).put dst ret)) (enterS st args)):ACall P false st dst f args K:=
 .inr ⟨rfl,callK_slim hm hF hf hs hok hle h⟩
section
variable {st:St} {H H':Heap} {T T':Nat} {args:List AV} {k:Nat}
@[simp] theorem back_s:(st.back H T).s=st.s:=rfl
@[simp] theorem back_H:(st.back H T).H=H:=rfl
@[simp] theorem back_T:(st.back H T).T=T:=rfl
@[simp] theorem back_back:(st.back H T).back H' T'=st.back H' T':=rfl
@[simp] theorem enterS_s:(enterS st args).s k=args.getD k (.c (.raw undef)):=rfl
@[simp] theorem enterS_H:(enterS st args).H=st.H:=rfl
@[simp] theorem enterS_T:(enterS st args).T=st.T+1:=rfl
@[simp] theorem finR_ret {fn:Func} {R:AV→Heap→Nat→Prop}:finR P fn R .ret st=∃res,resA P st fn.results.toList=some res∧R res st.H st.T:=by simp [finR]
@[simp] theorem finR_normal {fn:Func} {R:AV→Heap→Nat→Prop}:finR P fn R .normal st=∃res,resA P st fn.results.toList=some res∧R res st.H st.T:=by simp [finR]
end
def SameBut (S:List Id) (H H':Heap):Prop:=∀i,H i≠.unborn→i ∉ S→H' i=H i
theorem SameBut.refl (S:List Id) (H:Heap):SameBut S H H:=fun _ _ _=>rfl
theorem SameBut.set {S:List Id} {H H':Heap} {i:Id} {o:OK} (h:SameBut S H H') (hi:H i=.unborn∨i∈S):SameBut S H (hset H' i o):=fun j hj hn=>by
 unfold hset
 rw [if_neg ?_]
 ·exact h j hj hn
 ·rintro rfl
  rcases hi with q|q
  ·exact hj q
  ·exact hn q
theorem SameBut.get {S:List Id} {H H':Heap} (h:SameBut S H H') {i:Id} {e sz:Nat} {f:Bool} {rows:List (List AC)} (hi:H i=.arr e sz f rows) (hn:i ∉ S):H' i=.arr e sz f rows:=by
 rw [h i (by rw [hi];simp) hn,hi]
theorem Fresh.set' {H:Heap} {T:Nat} {i:Id} {o:OK} (h:Fresh H T) (hi:i.1<T):Fresh (hset H i o) T:=h.set (Nat.le_refl _) hi
theorem Fresh.not {H:Heap} {T:Nat} (h:Fresh H T) {i:Id} (hi:H i≠.unborn):(∀k d,T≤k→((k,d)=i)=False)∧(∀k d,T≤k→(i=(k,d))=False)∧i.1<T:=
 ⟨fun k d hk=>h.nee hi k d hk,fun k d hk=>h.nee' hi k d hk,h.lt hi⟩
theorem Fresh.arr {H:Heap} {T:Nat} (h:Fresh H T) {i:Id} {e sz:Nat} {f:Bool} {rows:List (List AC)} (hi:H i=.arr e sz f rows):(∀k d,T≤k→((k,d)=i)=False)∧(∀k d,T≤k→(i=(k,d))=False)∧i.1<T:=
 h.not (by rw [hi];simp)
def ExtH (S:List Id) (H0:Heap) (T0:Nat) (H:Heap) (T:Nat):Prop:=SameBut S H0 H∧Fresh H T∧T0≤T∧Fresh H0 T0
theorem ExtH.refl {S:List Id} {H:Heap} {T:Nat} (h:Fresh H T):ExtH S H T H T:=⟨SameBut.refl S H,h,Nat.le_refl _,h⟩
theorem ExtH.tick {S:List Id} {H0 H:Heap} {T0 T T':Nat} (h:ExtH S H0 T0 H T) (hT:T≤T'):ExtH S H0 T0 H T':=⟨h.1,h.2.1.mono hT,Nat.le_trans h.2.2.1 hT,h.2.2.2⟩
theorem ExtH.new {S:List Id} {H0 H:Heap} {T0 T:Nat} {i:Id} {o:OK} (h:ExtH S H0 T0 H T) (h0:T0≤i.1) (h1:i.1<T):ExtH S H0 T0 (hset H i o) T:=
 ⟨h.1.set (.inl (h.2.2.2 i.1 i.2 h0)),h.2.1.set' h1,h.2.2.1,h.2.2.2⟩
theorem ExtH.set {S:List Id} {H0 H:Heap} {T0 T:Nat} {i:Id} {o:OK} (h:ExtH S H0 T0 H T) (hi:i∈S) (h1:i.1<T):ExtH S H0 T0 (hset H i o) T:=
 ⟨h.1.set (.inr hi),h.2.1.set' h1,h.2.2.1,h.2.2.2⟩
theorem ExtH.arr {S:List Id} {H0 H:Heap} {T0 T:Nat} (h:ExtH S H0 T0 H T) {i:Id} {e sz:Nat} {f:Bool} {rows:List (List AC)} (hi:H0 i=.arr e sz f rows) (hn:i ∉ S):H i=.arr e sz f rows:=h.1.get hi hn
theorem ExtH.fresh {S:List Id} {H0 H:Heap} {T0 T:Nat} (h:ExtH S H0 T0 H T):Fresh H T:=h.2.1
def OwnL {α:Type} [Enc α] (H:Heap) (e sz T0:Nat) (c:AC) (l:List α):Prop:=(c=.raw (.slice none 0 0)∧l=[])∨∃id,c=.so id 0 l.length∧T0≤id.1∧H id=.arr e sz false (rowsE l)
theorem OwnL.nil {α:Type} [Enc α] {H:Heap} {e sz T0:Nat}:OwnL (α:=α) H e sz T0 (.raw (.slice none 0 0)) []:=.inl ⟨rfl,rfl⟩
theorem OwnL.so {α:Type} [Enc α] {H:Heap} {e sz T0 n:Nat} {id:Id} {l:List α} (hn:n=l.length) (h0:T0≤id.1) (h:H id=.arr e sz false (rowsE l)):OwnL H e sz T0 (.so id 0 n) l:=.inr ⟨id,by rw [hn],h0,h⟩
end Go.AE
set_option linter.unusedVariables false
set_option linter.unusedSimpArgs false
namespace Go.AE
open Go
variable {P:Program}
theorem pev_str {f:FuncId} {args:List AV} {l:List UInt8} (hok:okCall P f=true) (ha:∀x∈args,∀c∈x.flat,VOK c)
  (h:∀(w:World) (hI:Inv P w) (F:Tag→Nat→Prop) (vs:Array Value),vs.size=args.length→(∀(k:Nat) x,args[k]?=some x→RelV w F noHeap noLies x (vs.getD k undef))→
   Calls P f vs w fun e w'=>e=.returned (.string ⟨l.toArray⟩)∧RowKit.Below w.heap.size w w'):PEv P f args (.c (.str l)):=by
 refine ⟨⟨hok,by simp,ha⟩,fun w hI G vs hsz hargs nm inj=>?_⟩
 refine (h w hI _ vs hsz hargs).mono ?_
 rintro e w' ⟨rfl,hb⟩
 refine ⟨_,rfl,noLies,⟨hb,(fun id e sz f rows hid=>by cases hid),(fun id id' e sz rows e' sz' f' rows' b c s c' s' hid=>by cases hid),⟨0,fun _ _ _=>rfl⟩⟩,?_⟩
 exact .c _ _ (.str l)
theorem pev_raw {f:FuncId} {args:List AV} {u:Value} (hok:okCall P f=true) (ha:∀x∈args,∀c∈x.flat,VOK c)
  (h:∀(w:World) (hI:Inv P w) (F:Tag→Nat→Prop) (vs:Array Value),vs.size=args.length→(∀(k:Nat) x,args[k]?=some x→RelV w F noHeap noLies x (vs.getD k undef))→
   Calls P f vs w fun e w'=>e=.returned u∧RowKit.Below w.heap.size w w'):PEv P f args (.c (.raw u)):=by
 refine ⟨⟨hok,by simp,ha⟩,fun w hI G vs hsz hargs nm inj=>?_⟩
 refine (h w hI _ vs hsz hargs).mono ?_
 rintro e w' ⟨rfl,hb⟩
 refine ⟨_,rfl,noLies,⟨hb,(fun id e sz f rows hid=>by cases hid),(fun id id' e sz rows e' sz' f' rows' b c s c' s' hid=>by cases hid),⟨0,fun _ _ _=>rfl⟩⟩,?_⟩
 exact .c _ _ (.raw u)
theorem vs2 {vs:Array Value} {a b:Value} (hs:vs.size=2) (h0:vs.getD 0 undef=a) (h1:vs.getD 1 undef=b):vs=#[a,b]:=by
 obtain ⟨l⟩:=vs
 match l,hs with
 |[x,y],_=>simp [Array.getD] at h0 h1;rw [h0,h1]
theorem vs1 {vs:Array Value} {a:Value} (hs:vs.size=1) (h0:vs.getD 0 undef=a):vs=#[a]:=by
 obtain ⟨l⟩:=vs
 match l,hs with
 |[x],_=>simp [Array.getD] at h0;rw [h0]
end Go.AE
set_option linter.unusedVariables false
set_option linter.unusedSimpArgs false
set_option maxHeartbeats 2000000
namespace Go.AE
open Go Go.ChangeShapes Go.WideShapes
variable {P:Program}
def Opens (α:Type) [Enc α] (P:Program) (t:TypeId) (S:α→Prop):Prop:=
 ∀{H:Type} (enc:TypeId×Value→H) (w:World) (F:Tag→Nat→Prop) (fuel:Nat) (cs:List Value) (x:DataW H×List MemPlace),(∀b,b<w.heap.size→F .old b)→
  DataW.trod enc P w 0 (fun _=>true) true fuel t cs=some x→
  ∃a:α,cs.length=Enc.w α∧(∀v∈cs,v.oneCell'=true)∧(∀(k:Nat) c,(Enc.row a)[k]?=some c→RelC w F noHeap noLies c (cs.getD k undef))∧
   ((x.1.weights P t).all (·≤reachBytes)=true→S a)
theorem opens_str {t:TypeId} (ht:P.underlying t=some .string):Opens (List UInt8) P t (fun s=>s.length≤reachBytes):=by
 intro H enc w F fuel cs x hF h
 obtain ⟨s,rfl,rfl,hs⟩:=DataW.trod_string ht h
 refine ⟨s.data.toList,rfl,by simp [Value.oneCell'],fun k c hk=>?_,fun hw=>?_⟩
 ·match k,hk with
  |0,hk=>
   simp at hk
   subst hk
   exact .str s.data.toList
 ·simpa [DataW.weights] using hw
theorem opens_int {t:TypeId} (ht:P.underlying t=some (.int .i64)):Opens Int P t (fun n=>-9223372036854775808≤n∧n≤9223372036854775807):=by
 intro H enc w F fuel cs x hF h
 obtain ⟨n,rfl,rfl,hn⟩:=DataW.trod_int ht h
 refine ⟨n,rfl,by simp [Value.oneCell'],fun k c hk=>?_,fun _=>?_⟩
 ·match k,hk with
  |0,hk=>
   simp at hk
   subst hk
   exact .raw _
 ·simp only [Lit.wf,Bool.and_eq_true,decide_eq_true_eq] at hn
  have e1:IntKind.min .i64=-9223372036854775808:=rfl
  have e2:IntKind.max .i64=9223372036854775807:=rfl
  omega
def OpensL (α:Type) [Enc α] (P:Program) (t:TypeId) (S:List α→Prop):Prop:=
 ∀{H:Type} (enc:TypeId×Value→H) (w:World) (F:Tag→Nat→Prop) (fuel:Nat) (cs:List Value) (x:DataW H×List MemPlace),(∀b,b<w.heap.size→F .old b)→
  DataW.trod enc P w 0 (fun _=>true) true fuel t cs=some x→
  ∃l:List α,cs.length=1∧(∀v∈cs,v.oneCell'=true)∧RelC w F noHeap noLies (.sl .old false (rowsE l)) (cs.getD 0 undef)∧
   ((x.1.weights P t).all (·≤reachBytes)=true→S l)
theorem weightsAll_mem {H:Type} {e:TypeId}:∀{l:List (DataW H)} {d:DataW H},d∈l→∀n∈d.weights P e,n∈DataW.weightsAll P e l
 |[],_,h,_,_=>by simp at h
 |d::r,_,h,n,hn=>by
  rcases List.mem_cons.1 h with rfl|h
  ·simp [DataW.weightsAll,hn]
  ·simp [DataW.weightsAll,weightsAll_mem h n hn]
theorem opens_slice {α:Type} [Enc α] {t e:TypeId} {S:α→Prop} (ht:P.underlying t=some (.slice e)) (he:Opens α P e S) (hc:P.cellsOf e=Enc.w α) (hpos:0<Enc.w α) :
  OpensL α P t (fun l=>l.length*P.bytesOf e≤reachBytes∧∀a∈l,S a):=by
 intro H enc w F fuel cs x hF h
 rcases DataW.trod_slice ht h with ⟨rfl,rfl⟩|⟨a,len,cap,elems,rest,n,_,rfl,rfl,hb,hl,hm,hlen,hel,hsp,hns⟩
 ·exact ⟨[],rfl,by simp [Value.oneCell'],.slNil _ _ _ .nil,fun _=>by simp [reachBytes]⟩
 ·
  have each:∀i,i<len→∃(y:α) (cells:List Value) (d:DataW H×List MemPlace),elems[i]?=some d∧w.cells? 0 (a.add (i*P.cellsOf e)) (P.cellsOf e)=some cells∧cells.length=Enc.w α∧(∀v∈cells,v.oneCell'=true)∧
    (∀(k:Nat) c,(Enc.row y)[k]?=some c→RelC w F noHeap noLies c (cells.getD k undef))∧((d.1.weights P e).all (·≤reachBytes)=true→S y):=fun i hi=>by
   have h1:=hel i hi
   have h2:i<elems.length:=by omega
   rw [List.getElem?_eq_getElem h2,Option.bind_eq_some_iff] at h1
   obtain ⟨cells,hcells,htrod⟩:=h1
   obtain ⟨y,g1,g2,g3,g4⟩:=he enc w F n cells elems[i] hF htrod
   exact ⟨y,cells,elems[i],List.getElem?_eq_getElem h2,hcells,g1,g2,g3,g4⟩
  let ys:List α:=(List.range len).attach.map fun i=>Classical.choose (each i.1 (List.mem_range.1 i.2))
  have hys:ys.length=len:=by simp [ys]
  have hyi:∀i (hi:i<len),ys[i]?=some (Classical.choose (each i hi)):=fun i hi=>by
   simp [ys,hi]
  have spec:=fun i (hi:i<len)=>Classical.choose_spec (each i hi)
  have first:∀cells,w.cells? 0 (a.add 0) (P.cellsOf e)=some cells→a.spot=none∧a.block<w.heap.size:=fun cells hcs=>by
   obtain ⟨_,g1,g2⟩:=World.cells?_some hcs
   have g3:=g2 0 (by omega)
   have e0:(a.add 0).add 0=a:=by simp [Addr.add]
   rw [e0,List.getElem?_eq_getElem (by omega)] at g3
   unfold World.cell? at g3
   split at g3
   ·rename_i c _ _ hb
    split at g3
    ·cases g3
    ·rename_i hs
     exact ⟨by simpa using hs,(Array.getElem?_eq_some_iff.1 hb).1⟩
   ·cases g3
  by_cases h0:len=0
  ·have hy0:ys=[]:=List.eq_nil_of_length_eq_zero (by omega)
   have he0:elems=[]:=List.eq_nil_of_length_eq_zero (by omega)
   have rel:RelC w F noHeap noLies (.sl .old false (rowsE ([]:List α))) ((([Value.slice (some a) len cap]:List Value)).getD 0 undef):=by
    show RelC w F noHeap noLies (.sl .old false []) (.slice (some a) len cap)
    by_cases hc0:cap=0
    ·rw [h0,hc0];exact .slNil _ _ _ (.inr ⟨a,rfl⟩)
    ·obtain ⟨r1,r2⟩:=hsp rfl
     have r3:=r2 0 (by omega)
     rw [List.getElem?_eq_getElem (by omega),Option.bind_eq_some_iff] at r3
     obtain ⟨cells,hcells,_⟩:=r3
     rw [h0] at hcells
     simp only [Nat.add_zero,Nat.zero_mul] at hcells
     obtain ⟨f1,f2⟩:=first cells hcells
     have ea:a=⟨a.block,a.off,none⟩:=by cases a;simp at f1;subst f1;rfl
     rw [h0,ea]
     exact .sl _ _ [] a.block a.off cap 0 (fun _=>undef) f2 (hF _ f2) (by simp) (fun q=>by cases q) (by simp) (by simp) (by simp) (by simp)
   exact ⟨[],rfl,by simp [Value.oneCell'],rel,fun _=>by simp [reachBytes]⟩
  ·obtain ⟨_,cells0,_,_,hc0,_⟩:=each 0 (by omega)
   rw [Nat.zero_mul] at hc0
   obtain ⟨f1,f2⟩:=first cells0 hc0
   have ea:a=⟨a.block,a.off,none⟩:=by cases a;simp at f1;subst f1;rfl
   generalize hbb:a.block=b at *
   generalize hoo:a.off=o at *
   clear hbb hoo
   subst ea
   have cellAt:∀i (hi:i<len) j,j<Enc.w α→∃u,w.cell? ⟨b,o+(i*Enc.w α+j),none⟩=some u∧u.oneCell'=true∧∀c,(Enc.row (Classical.choose (each i hi)))[j]?=some c→RelC w F noHeap noLies c u:=fun i hi j hj=>by
    obtain ⟨cells,d,g1,g2,g3,g4,g5,g6⟩:=spec i hi
    obtain ⟨_,q1,q2⟩:=World.cells?_some g2
    have q3:=q2 j (by omega)
    rw [Addr.add_lit,Addr.add_lit,hc,List.getElem?_eq_getElem (by omega)] at q3
    refine ⟨cells[j],by rw [←Nat.add_assoc];exact q3,g4 _ (List.getElem_mem _),fun c hcj=>?_⟩
    have:=g5 j c hcj
    rwa [List.getD_eq_getElem?_getD,List.getElem?_eq_getElem (by omega),Option.getD_some] at this
   have hdm:∀k,k<len*Enc.w α→k/Enc.w α<len∧k%Enc.w α<Enc.w α∧k/Enc.w α*Enc.w α+k%Enc.w α=k:=fun k hk=>
    ⟨Nat.div_lt_of_lt_mul (by rw [Nat.mul_comm];exact hk),Nat.mod_lt _ hpos,by rw [Nat.mul_comm];exact Nat.div_add_mod _ _⟩
   refine ⟨ys,rfl,by simp [Value.oneCell'],?_,fun hw=>?_⟩
   ·show RelC w F noHeap noLies (.sl .old false (rowsE ys)) (.slice (some ⟨b,o,none⟩) len cap)
    have hrl:(rowsE ys).length=len:=by simp [hys]
    have:=RelC.sl (w:=w) (F:=F) (H:=noHeap) (ρ:=noLies) .old false (rowsE ys) b o cap (Enc.w α) (fun k=>(w.cell? ⟨b,o+k,none⟩).getD undef) f2 (hF _ f2) (by omega) (fun q=>by cases q)
     (fun i r hr=>by
      rw [rowsE_get?,Option.map_eq_some_iff] at hr
      obtain ⟨y,_,rfl⟩:=hr
      exact Enc.len y)
     (fun k hk=>by
      rw [hrl] at hk
      obtain ⟨d1,d2,d3⟩:=hdm k hk
      obtain ⟨u,u1,_⟩:=cellAt _ d1 _ d2
      rw [d3] at u1
      rw [u1];rfl)
     (fun k hk=>by
      rw [hrl] at hk
      obtain ⟨d1,d2,d3⟩:=hdm k hk
      obtain ⟨u,u1,u2,_⟩:=cellAt _ d1 _ d2
      rw [d3] at u1
      rw [u1];exact u2)
     (fun i j r c hr hcj=>by
      rw [rowsE_get?,Option.map_eq_some_iff] at hr
      obtain ⟨y,hy,rfl⟩:=hr
      have hi:i<len:=by have:=(List.getElem?_eq_some_iff.1 hy).1;omega
      rw [hyi i hi] at hy
      cases hy
      have hj:j<Enc.w α:=by have:=(List.getElem?_eq_some_iff.1 hcj).1;rw [Enc.len] at this;exact this
      obtain ⟨u,u1,_,u3⟩:=cellAt i hi j hj
      rw [u1];exact u3 c hcj)
    rwa [hrl] at this
   ·simp only [DataW.weights,ht,List.all_cons,Bool.and_eq_true,decide_eq_true_eq,List.all_append,List.length_map] at hw
    obtain ⟨hw1,hw2,_⟩:=hw
    refine ⟨?_,fun y hy=>?_⟩
    ·rw [hys]
     refine Nat.le_trans (Nat.mul_le_mul_right _ ?_) hw1
     omega
    ·obtain ⟨i,hi,rfl⟩:=List.getElem_of_mem hy
     have hi':i<len:=by omega
     have e1:ys[i]=Classical.choose (each i hi'):=by
      have:=hyi i hi'
      rw [List.getElem?_eq_getElem hi] at this
      exact Option.some.inj this
     rw [e1]
     obtain ⟨cells,d,g1,g2,g3,g4,g5,g6⟩:=spec i hi'
     refine g6 (List.all_eq_true.2 fun n hn=>?_)
     exact List.all_eq_true.1 hw2 n (weightsAll_mem (List.mem_map.2 ⟨d,List.mem_of_getElem? g1,rfl⟩) n hn)
end Go.AE
set_option linter.unusedVariables false
set_option linter.unusedSimpArgs false
namespace Go.AE
open Go
variable {P:Program}
def anyF:Tag→Nat→Prop:=fun t _=>t≠.new
theorem calls_true {f:FuncId} {args:List AV} (hp:PEv P f args (.c (.raw (.bool true)))) {w:World} (hI:Inv P w) {vs:Array Value} (hs:vs.size=args.length)
  (hr:∀(k:Nat) x,args[k]?=some x→RelV w (Fr (Ctx.of w hI fun _ _=>True) noHeap noLies) noHeap noLies x (vs.getD k undef)) :
  Calls P f vs w fun e w'=>e=.returned (.bool true)∧RowKit.Below w.heap.size w w':=by
 refine (hp.2 w hI (fun _ _=>True) vs hs hr (fun k=>(0,k)) (fun i j h=>by simpa using h)).mono ?_
 rintro e w' ⟨v,rfl,ρ,hH,hR⟩
 have hv:=relC_raw (relV_c hR)
 subst hv
 exact ⟨rfl,hH.below⟩
theorem fr_any {w:World} {hI:Inv P w} {t:Tag} {b:Nat} (ht:t≠.new):Fr (Ctx.of w hI fun _ _=>True) noHeap noLies t b:=
 ⟨.inr ⟨ht,trivial⟩,fun ⟨_,_,_,_,_,_,h,_⟩=>by cases h⟩
end Go.AE
set_option linter.unusedVariables false
set_option linter.unusedSimpArgs false
namespace Go.AE
open Go
variable {P:Program}
theorem not_mut {b:Nat}:¬Mut noHeap noLies b:=fun ⟨_,_,_,_,_,_,h,_⟩=>by cases h
theorem so_frz {C:Ctx P} {H:Heap} {ρ:Lies} {w:World} {id:Id} {v:Value} {e sz:Nat} {xs:List (List AC)} (hH:RelH C H ρ w) (h:RelC w (Fr C H ρ) H ρ (.so id 0 xs.length) v) (hid:H id=.arr e sz false xs)
  (hr:∀r∈xs,∀c∈r,RetOK c):RelC w (Fr C noHeap noLies) noHeap noLies (.sl .new false xs) v:=by
 have hrows:rowsOf H (.so id 0 xs.length)=some xs:=by simp [rowsOf,hid]
 have hin:∀c u,RetOK c→RelC w (Fr C H ρ) H ρ c u→RelC w (Fr C noHeap noLies) noHeap noLies c u:=fun c u hc hu=>hu.noid hc fun t b _ hb=>⟨hb.1,not_mut⟩
 have hs:SoVal ρ id 0 xs.length v:=by
  cases h with
  |so _ _ _ _ hk hs=>exact hs (by rw [hid];rfl)
 unfold SoVal at hs
 rcases (hH.row id e sz false xs hid).lies with ⟨q1,q2⟩|⟨b',cap',cur,q1,q0,q3,_⟩
 ·rw [q1] at hs;subst q2;exact .slNil _ _ _ hs.2.2
 ·rw [q1] at hs
  obtain ⟨o'',he,_⟩:=hs
  have hb:b'<w.heap.size:=q3.lt
  rcases rows_rel hH h hrows with ⟨hn,rfl⟩|⟨b,o',cap,sz',rfl,g1,g2,g3⟩
  ·exact .slNil _ _ _ hn
  ·cases he
   obtain ⟨news,n1,n2,n3,n4⟩:=app_vals g1 g3
   have hbl:∀k,k<xs.length*sz'→∃u,w.cell? ⟨b',o''+k,none⟩=some u∧news[k]?=some u:=fun k hk=>by
    have:k<news.length:=by omega
    have h1:=n2 k news[k] (List.getElem?_eq_getElem this)
    rw [Addr.add_lit] at h1
    exact ⟨_,h1,List.getElem?_eq_getElem this⟩
   refine .sl _ _ xs b' o'' _ sz' (fun k=>news.getD k undef) hb ⟨.inl q0,not_mut⟩ g2 (fun e=>by cases e) (fun i r hi=>g1 r (List.mem_of_getElem? hi)) (fun k hk=>?_) (fun k hk=>?_) (fun i j r c hi hj=>?_)
   ·obtain ⟨u,u1,u2⟩:=hbl k hk
    rw [u1];simp [List.getD,u2]
   ·obtain ⟨u,u1,u2⟩:=hbl k hk
    have:news.getD k undef=u:=by simp [List.getD,u2]
    rw [this];exact n3 u (List.mem_of_getElem? u2)
   ·obtain ⟨u,u1,u2,u3⟩:=n4 i j r c hi hj
    have:news.getD (i*sz'+j) undef=u:=by simp [List.getD,u1]
    rw [this]
    exact hin _ _ (hr r (List.mem_of_getElem? hi) c (List.mem_of_getElem? hj)) u3
def frzC (t:Tag):AC→AC
 |.nw _ _ xs=>.sl t false xs
 |c=>c
def AV.frz (t:Tag):AV→AV
 |.c x=>.c (frzC t x)
 |.g xs=>.g (xs.map (frzC t))
 |.t ps=>.t (ps.map fun q=>(q.1,q.2.map (frzC t)))
@[simp] theorem frzC_nw {t:Tag} {e sz:Nat} {xs:List (List AC)}:frzC t (.nw e sz xs)=.sl t false xs:=rfl
@[simp] theorem frzC_raw {t:Tag} {v:Value}:frzC t (.raw v)=.raw v:=rfl
@[simp] theorem frzC_str {t:Tag} {l:List UInt8}:frzC t (.str l)=.str l:=rfl
@[simp] theorem frzC_sl {t t':Tag} {cl:Bool} {xs:List (List AC)}:frzC t (.sl t' cl xs)=.sl t' cl xs:=rfl
theorem flatT_frz {t:Tag}:∀ps:List (Bool×List AC),flatT (ps.map fun q=>(q.1,q.2.map (frzC t)))=(flatT ps).map (frzC t)
 |[]=>rfl
 |(b,cs)::r=>by simp [flatT,flatT_frz r]
theorem flat_frz {t:Tag} (v:AV):(v.frz t).flat=v.flat.map (frzC t):=by
 cases v with
 |c x=>rfl
 |g xs=>rfl
 |t ps=>exact flatT_frz ps
theorem frzC_not {t:Tag} {c:AC} {e sz:Nat} {xs:List (List AC)}:frzC t c≠.nw e sz xs:=by cases c<;>simp [frzC]
theorem adC_frz {t:Tag} {nm:Nat→Id} {k:Nat} {c:AC}:adC nm k (frzC t c)=frzC t c:=by cases c<;>rfl
theorem adL_frz {t:Tag} {nm:Nat→Id}:∀(cs:List AC) (k:Nat),adL nm k (cs.map (frzC t))=cs.map (frzC t)
 |[],_=>rfl
 |c::cs,k=>by simp [adL,adC_frz,adL_frz cs]
theorem adT_frz {t:Tag} {nm:Nat→Id}:∀(ps:List (Bool×List AC)) (k:Nat),adT nm k (ps.map fun q=>(q.1,q.2.map (frzC t)))=ps.map fun q=>(q.1,q.2.map (frzC t))
 |[],_=>rfl
 |(b,cs)::r,k=>by simp [adT,adL_frz,adT_frz r]
theorem ad_frz {t:Tag} {nm:Nat→Id} (v:AV):(v.frz t).ad nm=v.frz t:=by
 cases v with
 |c x=>simp [AV.frz,AV.ad,adC_frz]
 |g xs=>simp [AV.frz,AV.ad,adL_frz]
 |t ps=>simp [AV.frz,AV.ad,adT_frz]
theorem adH_frz {t:Tag} {nm:Nat→Id} {H:Heap}:∀(cs:List AC) (k:Nat),adH nm k (cs.map (frzC t)) H=H
 |[],_=>rfl
 |c::cs,k=>by
  simp only [List.map_cons,adH]
  have:adH1 (nm k) (frzC t c) H=H:=by cases c<;>rfl
  rw [this,adH_frz cs]
theorem adL_at {nm:Nat→Id}:∀(cs:List AC) (k j:Nat),(adL nm k cs)[j]?=(cs[j]?).map (adC nm (k+j))
 |[],_,_=>by simp [adL]
 |c::cs,k,0=>by simp [adL]
 |c::cs,k,j+1=>by
  simp only [adL,List.getElem?_cons_succ]
  rw [adL_at cs]
  congr 2
  omega
theorem adL_len {nm:Nat→Id}:∀(cs:List AC) (k:Nat),(adL nm k cs).length=cs.length
 |[],_=>rfl
 |c::cs,k=>by simp [adL,adL_len cs]
theorem PEv.frz {f:FuncId} {args:List AV} {ret:AV} (t:Tag) (ht:t≠.brw) (h:PEv P f args ret):PEv P f args (ret.frz t):=by
 obtain ⟨⟨h1,h2,h3⟩,h4⟩:=h
 refine ⟨⟨h1,?_,h3⟩,fun w hI G vs hs hr nm inj=>(h4 w hI G vs hs hr nm inj).mono ?_⟩
 ·intro c hc
  rw [flat_frz,List.mem_map] at hc
  obtain ⟨d,hd,rfl⟩:=hc
  have:=h2 d hd
  cases d with
  |nw e sz xs=>exact .sl _ _ _ ht this
  |_=>exact this
 ·rintro e w' ⟨v,rfl,ρ,hH,hR⟩
  refine ⟨v,rfl,noLies,?_⟩
  rw [flat_frz,adH_frz,ad_frz]
  refine ⟨⟨hH.below,(fun id e sz f rows h=>by cases h),(fun id id' e sz rows e' sz' frz' rows' b c s c' s' h=>by cases h),⟨0,fun _ _ _=>rfl⟩⟩,?_⟩
  have cell:∀(j:Nat) c u,ret.flat[j]?=some c→RelC w' (Fr (Ctx.of w hI G) (adH nm 0 ret.flat noHeap) ρ) (adH nm 0 ret.flat noHeap) ρ (adC nm j c) u→RelC w' (Fr (Ctx.of w hI G) noHeap noLies) noHeap noLies (frzC t c) u:=fun j c u hj hu=>by
   have hc:=h2 c (List.mem_of_getElem? hj)
   have keep:RetOK c→RelC w' (Fr (Ctx.of w hI G) (adH nm 0 ret.flat noHeap) ρ) (adH nm 0 ret.flat noHeap) ρ c u→RelC w' (Fr (Ctx.of w hI G) noHeap noLies) noHeap noLies c u:=fun hc hu=>
    hu.noid hc fun t b _ hb=>⟨hb.1,not_mut⟩
   cases c with
   |nw e sz xs=>
    have hid:adH nm 0 ret.flat noHeap (nm j)=.arr e sz false xs:=by
     rcases adH_get nm ret.flat 0 noHeap (nm j) inj with ⟨j',e',sz',xs',g1,g2,g3⟩|⟨g1,_⟩
     ·have:=inj _ _ g2
      rw [Nat.zero_add] at this
      subst this
      rw [hj] at g1
      cases g1
      exact g3
     ·exact (g1 j e sz xs hj (by rw [Nat.zero_add])).elim
    have:=so_frz hH hu hid hc
    cases this with
    |slNil _ _ _ h=>exact .slNil _ _ _ h
    |sl _ _ _ b o cap sz vs hb hf hcap hcl hr hcell hone hrel=>
     refine .sl t false xs b o cap sz vs hb ⟨?_,hf.2⟩ hcap (fun e=>by cases e) hr hcell hone hrel
     rcases hf.1 with q|⟨q,_⟩
     ·exact .inl q
     ·exact (q rfl).elim
   |_=>exact keep hc hu
  cases ret with
  |c x=>
   cases hR with
   |c _ _ hx=>exact .c _ _ (cell 0 x _ rfl hx)
  |g xs=>
   cases hR with
   |g _ vs hl hx=>
    refine .g _ _ (by rw [adL_len] at hl;simpa using hl) fun k c hk=>?_
    rw [List.getElem?_map,Option.map_eq_some_iff] at hk
    obtain ⟨d,hd,rfl⟩:=hk
    exact cell k d _ hd (hx k _ (by rw [adL_at,hd,Nat.zero_add];rfl))
  |t ps=>
   cases hR with
   |t _ vs hl hx=>
    have len:∀(ps:List (Bool×List AC)) (k:Nat),(adT nm k ps).length=ps.length:=fun ps=>by
     induction ps with
     |nil=>intro k;rfl
     |cons q r ih=>intro k;obtain ⟨b,cs⟩:=q;simp [adT,ih]
    have at_:∀(ps:List (Bool×List AC)) (k j:Nat) b cs,ps[j]?=some (b,cs)→∃o,(adT nm k ps)[j]?=some (b,adL nm (k+o) cs)∧∀(i:Nat) c,cs[i]?=some c→(flatT ps)[o+i]?=some c:=fun ps=>by
     induction ps with
     |nil=>intro k j b cs h;simp at h
     |cons q r ih=>
      intro k j b cs h
      obtain ⟨b0,cs0⟩:=q
      cases j with
      |zero=>
       simp at h
       obtain ⟨rfl,rfl⟩:=h
       refine ⟨0,by simp [adT],fun i c hi=>?_⟩
       simp only [flatT,Nat.zero_add]
       rw [List.getElem?_append_left (List.getElem?_eq_some_iff.1 hi).1]
       exact hi
      |succ j=>
       obtain ⟨o,o1,o2⟩:=ih (k+cs0.length) j b cs (by simpa using h)
       refine ⟨cs0.length+o,by simp only [adT,List.getElem?_cons_succ];rw [o1];congr 3;omega,fun i c hi=>?_⟩
       simp only [flatT]
       rw [List.getElem?_append_right (by omega),show cs0.length+o+i-cs0.length=o+i from by omega]
       exact o2 i c hi
    refine .t _ _ (by rw [len] at hl;simpa using hl) fun k b cs hk=>?_
    rw [List.getElem?_map,Option.map_eq_some_iff] at hk
    obtain ⟨⟨b0,cs0⟩,hd,he⟩:=hk
    simp only [Prod.mk.injEq] at he
    obtain ⟨rfl,rfl⟩:=he
    obtain ⟨o,o1,o2⟩:=at_ ps 0 k b0 cs0 hd
    rw [Nat.zero_add] at o1
    have:=hx k b0 _ o1
    generalize hu:vs.getD k undef=u at this
    generalize hcs:adL nm o cs0=cs1 at this
    cases this with
    |c x _ hx=>
     match cs0,hcs with
     |[c0],hcs=>
      simp [adL] at hcs
      subst hcs
      exact .c _ _ (cell o c0 _ (o2 0 c0 rfl) hx)
     |[],hcs=>simp [adL] at hcs
     |_::_::_,hcs=>simp [adL] at hcs
    |g _ us hlu hu=>
     subst hcs
     refine .g _ _ (by rw [adL_len] at hlu;simpa using hlu) fun i c hi=>?_
     rw [List.getElem?_map,Option.map_eq_some_iff] at hi
     obtain ⟨d,hd,rfl⟩:=hi
     exact cell (o+i) d _ (o2 i d hd) (hu i _ (by rw [adL_at,hd];rfl))
theorem PEv.frz2 {f:FuncId} {args:List AV} {e1 s1 e2 s2:Nat} {xs1 xs2:List (List AC)} (h:PEv P f args (.g [.nw e1 s1 xs1,.nw e2 s2 xs2])):PEv P f args (.g [.sl .new false xs1,.sl .new false xs2]):=
 h.frz .new (by simp)
end Go.AE
set_option linter.unusedVariables false
set_option linter.unusedSimpArgs false
namespace Go.AE
open Go
variable {P:Program}
inductive idD (id:Id):AC→Prop where
 |so (off len:Nat):idD id (.so id off len)
 |pt (i j:Nat):idD id (.pt id i j)
 |fn (f:FuncId) (caps:List AC) (c:AC) (hc:c∈caps) (h:idD id c):idD id (.fn f caps)
 |sl (t:Tag) (cl:Bool) (xs:List (List AC)) (r:List AC) (c:AC) (hr:r∈xs) (hc:c∈r) (h:idD id c):idD id (.sl t cl xs)
 |pv (t:Tag) (row:List AC) (j:Nat) (c:AC) (hc:c∈row) (h:idD id c):idD id (.pv t row j)
theorem RelC.bornD {w:World} {F:Tag→Nat→Prop} {H:Heap} {ρ:Lies} {c:AC} {v:Value} (h:RelC w F H ρ c v) {id:Id} (hi:idD id c):H id≠.unborn:=by
 induction h with
 |raw v=>cases hi
 |str l=>cases hi
 |junk v=>cases hi
 |slNil t cl v h=>cases hi with|sl _ _ _ r c hr hc h=>simp at hr
 |sl t cl xs b o cap sz vs hb hF hcap hcl hrow hcell hone hrel ih=>
  cases hi with
  |sl _ _ _ r c hr hc h=>
   obtain ⟨i,hi⟩:=List.getElem?_of_mem hr
   obtain ⟨j,hj⟩:=List.getElem?_of_mem hc
   exact ih i j r c hi hj h
 |so id off len v hk h=>cases hi;exact hk
 |pt id i j v hk h=>cases hi;exact hk
 |pv t row j b o vs hb hF hcell hrel ih=>
  cases hi with
  |pv _ _ _ c hc h=>
   obtain ⟨k,hk⟩:=List.getElem?_of_mem hc
   exact ih k c hk h
 |fn f caps vs hl h ih=>
  cases hi with
  |fn _ _ c hc h=>
   obtain ⟨k,hk⟩:=List.getElem?_of_mem hc
   exact ih k c hk h
theorem RelC.sub {w:World} {F F':Tag→Nat→Prop} {H H':Heap} {ρ ρ':Lies} {c:AC} {v:Value} (h:RelC w F H ρ c v)
  (hid:∀id,idD id c→H' id≠.unborn∧((H' id).live=true→(H id).live=true∧ρ' id=ρ id)) (hF:∀t b,F t b→F' t b):RelC w F' H' ρ' c v:=by
 induction h with
 |raw v=>exact .raw v
 |str l=>exact .str l
 |junk v=>exact .junk v
 |slNil t cl v h=>exact .slNil t cl v h
 |sl t cl xs b o cap sz vs hb hf hcap hcl hrow hcell hone hrel ih=>
  exact .sl t cl xs b o cap sz vs hb (hF _ _ hf) hcap hcl hrow hcell hone fun i j r c hi hj=>ih i j r c hi hj fun id h=>hid id (.sl _ _ _ r c (List.mem_of_getElem? hi) (List.mem_of_getElem? hj) h)
 |so id off len v hk h=>
  obtain ⟨h1,h2⟩:=hid id (.so _ _)
  exact .so id off len v h1 fun hl=>by
   obtain ⟨h3,h4⟩:=h2 hl
   have:=h h3
   unfold SoVal at *
   rw [h4];exact this
 |pt id i j v hk h=>
  obtain ⟨h1,h2⟩:=hid id (.pt _ _)
  exact .pt id i j v h1 fun hl=>by
   obtain ⟨h3,h4⟩:=h2 hl
   obtain ⟨b,cap,sz,h5,h6⟩:=h h3
   exact ⟨b,cap,sz,by rw [h4];exact h5,h6⟩
 |pv t row j b o vs hb hf hcell hrel ih=>
  exact .pv t row j b o vs hb (hF _ _ hf) hcell fun k c hk=>ih k c hk fun id h=>hid id (.pv _ _ _ c (List.mem_of_getElem? hk) h)
 |fn f caps vs hl h ih=>exact .fn f caps vs hl fun k c hk=>ih k c hk fun id h=>hid id (.fn _ _ c (List.mem_of_getElem? hk) h)
theorem Keeps.trans {w w' w'':World} {F F' F'':Tag→Nat→Prop} {H H' H'':Heap} {ρ ρ' ρ'':Lies} (h:Keeps w w' F F' H H' ρ ρ') (h':Keeps w' w'' F' F'' H' H'' ρ' ρ''):Keeps w w'' F F'' H H'' ρ ρ'':=by
 refine ⟨Nat.le_trans h.size h'.size,fun t b hf hb=>?_,fun id hi=>?_⟩
 ·obtain ⟨h1,h2⟩:=h.blk t b hf hb
  obtain ⟨h3,h4⟩:=h'.blk t b h1 (Nat.lt_of_lt_of_le hb h.size)
  exact ⟨h3,h4.trans h2⟩
 ·obtain ⟨h1,h2⟩:=h.obj id hi
  obtain ⟨h3,h4⟩:=h'.obj id h1
  exact ⟨h3,fun l=>by
   obtain ⟨h5,h6⟩:=h4 l
   obtain ⟨h7,h8⟩:=h2 h5
   exact ⟨h7,h6.trans h8⟩⟩
theorem soIds_get:∀{cs:List AC} {k:Nat} {id:Id} {off len:Nat},cs[k]?=some (.so id off len)→id∈soIds cs
 |c::cs,0,id,off,len,h=>by simp at h;subst h;simp [soIds]
 |c::cs,k+1,id,off,len,h=>by
  have:=soIds_get (cs:=cs) (k:=k) (by simpa using h)
  cases c<;>simp [soIds,this]
theorem gc {C:Ctx P} {w0 w:World} {st:St} {a:Act} {ρ0 ρ:Lies} {Hf:Heap} (h0:Rel C ρ0 st a w0) (h1:RelH C Hf ρ w) (k:Keeps w0 w (Fr C st.H ρ0) (Fr C Hf ρ) st.H Hf ρ0 ρ)
  {res ret:AV} {v:Value} (hv:RelV w (Fr C Hf ρ) Hf ρ res v) (hret:∀c∈ret.flat,RetC c) (hex:exV Hf res ret) (hnd:(soIds res.flat).Nodup) (hnew:∀id∈soIds res.flat,st.H id=.unborn)
  (nm:Nat→Id) (inj:∀i j,nm i=nm j→i=j) (hun:adUn nm st.H 0 ret.flat) {us:List (Id×OK)} (hus:∀i,st.H i≠.unborn→Hf i=upH st.H us i) (hub:∀q∈us,q.2≠.unborn∧st.H q.1≠.unborn)
  (hcl:∀q∈us,∀e sz f rows,q.2=.arr e sz f rows→∀r∈rows,∀c∈r,∀id,idD id c→st.H id≠.unborn) :
  ∃ρ',Rel C ρ' {st with H:=adH nm 0 ret.flat (upH st.H us)} a w∧RelV w (Fr C (adH nm 0 ret.flat (upH st.H us)) ρ') (adH nm 0 ret.flat (upH st.H us)) ρ' (ret.ad nm) v:=by
 obtain ⟨hlen,hcell⟩:=exL_get (exV_flat hex)
 generalize hHb:upH st.H us=Hb at hus
 have hbN:∀i,Hb i=(upN us i).getD (st.H i):=fun i=>by rw [←hHb,upH_upN]
 have hbb:∀i,Hb i≠.unborn↔st.H i≠.unborn:=fun i=>by
  rw [hbN]
  cases hu:upN us i with
  |none=>simp
  |some ob=>simpa [(hub _ (upN_mem hu)).1] using (hub _ (upN_mem hu)).2
 let lieOf:AC→Option (Nat×Nat×Nat):=fun c=>match c with
  |.so id _ _=>ρ id
  |_=>none
 have hdec:∀i:Id,Decidable (∃k,i=nm k∧∃e sz xs,ret.flat[k]?=some (.nw e sz xs)):=fun i=>Classical.propDecidable _
 let ρ':Lies:=fun i=>if hk:∃k,i=nm k∧∃e sz xs,ret.flat[k]?=some (.nw e sz xs) then lieOf ((res.flat)[Classical.choose hk]?.getD .junk) else ρ i
 have hρ':∀k e sz xs,ret.flat[k]?=some (.nw e sz xs)→ρ' (nm k)=lieOf ((res.flat)[k]?.getD .junk):=fun k e sz xs hx=>by
  have hk:∃k',nm k=nm k'∧∃e sz xs,ret.flat[k']?=some (.nw e sz xs):=⟨k,rfl,e,sz,xs,hx⟩
  have:Classical.choose hk=k:=inj _ _ (Classical.choose_spec hk).1.symm
  simp only [ρ']
  rw [dif_pos hk,this]
 have hρo:∀i,(∀k e sz xs,ret.flat[k]?=some (.nw e sz xs)→i≠nm k)→ρ' i=ρ i:=fun i hn=>by
  simp only [ρ']
  rw [dif_neg]
  rintro ⟨k,hk,e,sz,xs,hx⟩
  exact hn k e sz xs hx hk
 have nmU:∀k e sz xs,ret.flat[k]?=some (.nw e sz xs)→st.H (nm k)=.unborn:=fun k e sz xs hx=>by
  have:=adUn_get nm ret.flat 0 st.H hun k e sz xs hx
  rwa [Nat.zero_add] at this
 have old:∀i,st.H i≠.unborn→∀k e sz xs,ret.flat[k]?=some (.nw e sz xs)→i≠nm k:=fun i hi k e sz xs hx he=>hi (by rw [he];exact nmU k e sz xs hx)
 generalize hHD:adH nm 0 ret.flat Hb=HD
 have look:∀id,(∃k e sz xs,ret.flat[k]?=some (.nw e sz xs)∧id=nm k∧HD id=.arr e sz false xs)∨((∀k e sz xs,ret.flat[k]?=some (.nw e sz xs)→id≠nm k)∧HD id=Hb id):=fun id=>by
  rw [←hHD]
  rcases adH_get nm ret.flat 0 Hb id inj with ⟨j,e,sz,xs,q1,q2,q3⟩|⟨q1,q2⟩
  ·exact .inl ⟨j,e,sz,xs,q1,by rwa [Nat.zero_add] at q2,q3⟩
  ·exact .inr ⟨fun k e sz xs hx=>by have:=q1 k e sz xs hx;rwa [Nat.zero_add] at this,q2⟩
 have hold:∀i,st.H i≠.unborn→HD i=Hf i∧ρ' i=ρ i:=fun i hi=>by
  rcases look i with ⟨k,e,sz,xs,q1,q2,_⟩|⟨q1,q2⟩
  ·exact (old i hi k e sz xs q1 q2).elim
  ·exact ⟨by rw [q2];exact (hus i hi).symm,hρo i q1⟩
 have arr:∀id e sz f rows,HD id=.arr e sz f rows→
   (f=false∧∃k,ret.flat[k]?=some (.nw e sz rows)∧id=nm k∧
    ((rows=[]∧ρ' id=none)∨∃id0 n,res.flat[k]?=some (.so id0 0 n)∧Hf id0=.arr e sz false rows∧n=rows.length∧ρ' id=ρ id0))∨
   (st.H id≠.unborn∧Hf id=.arr e sz f rows∧ρ' id=ρ id):=fun id e sz f rows hid=>by
  rcases look id with ⟨k,e',sz',xs',hk,rfl,h3⟩|⟨q1,q2⟩
  ·rw [hid] at h3
   cases h3
   refine .inl ⟨rfl,k,hk,rfl,?_⟩
   obtain ⟨c,hc,hx⟩:=hcell k _ hk
   have hr:=hρ' k _ _ _ hk
   rw [hc] at hr
   simp only [Option.getD_some] at hr
   unfold exC at hx
   split at hx
   ·rename_i id0 off len e' sz' rows' heq
    cases heq
    obtain ⟨rfl,h1,h2⟩:=hx
    exact .inr ⟨id0,len,hc,h1,h2,by rw [hr]⟩
   ·rename_i heq;cases heq
   ·rename_i e' sz' rows' heq
    cases heq
    exact .inl ⟨hx,by rw [hr]⟩
   ·rename_i heq;cases heq
   ·rename_i heq;cases heq
   ·rename_i heq;cases heq
   ·rename_i heq;cases heq
   ·exact hx.elim
  ·have hb:st.H id≠.unborn:=(hbb id).1 (by rw [←q2,hid];simp)
   obtain ⟨g1,g2⟩:=hold id hb
   exact .inr ⟨hb,by rw [←g1];exact hid,g2⟩
 have mut2:∀b,Mut HD ρ' b→Mut Hf ρ b:=fun b ⟨id,e,sz,rows,cap,s,hid,hρ⟩=>by
  rcases arr id e sz false rows hid with ⟨_,k,hk,rfl,h2⟩|⟨h2,h3,h4⟩
  ·rcases h2 with ⟨_,h2⟩|⟨id0,n,h2,h3,h4,h5⟩
   ·rw [h2] at hρ;cases hρ
   ·exact ⟨id0,e,sz,rows,cap,s,h3,by rw [←h5];exact hρ⟩
  ·exact ⟨id,e,sz,rows,cap,s,h3,by rw [←h4];exact hρ⟩
 have hF:∀t b,Fr C Hf ρ t b→Fr C HD ρ' t b:=fun t b hf=>⟨hf.1,fun m=>hf.2 (mut2 b m)⟩
 have hF':∀t b,t≠.brw→Fr C Hf ρ t b→Fr C HD ρ' t b:=fun t b _ hf=>hF t b hf
 have subC:∀c u,(∀id,idD id c→st.H id≠.unborn)→RelC w (Fr C Hf ρ) Hf ρ c u→RelC w (Fr C HD ρ') HD ρ' c u:=fun c u hc hu=>
  hu.sub (fun id hi=>by
   obtain ⟨g1,g2⟩:=hold id (hc id hi)
   refine ⟨?_,fun hl=>⟨by rw [←g1];exact hl,g2⟩⟩
   rw [g1]
   exact (k.obj id (hc id hi)).1) hF
 have hrowOf:∀id e sz f rows,HD id=.arr e sz f rows→Row w (Fr C HD ρ') HD ρ' C.p id e sz rows:=fun id e sz f rows hid=>by
  rcases arr id e sz f rows hid with ⟨_,k,hk,rfl,h2⟩|⟨h2,h3,h4⟩
  ·have hrc:RetC (.nw e sz rows):=hret _ (List.mem_of_getElem? hk)
   rcases h2 with ⟨rfl,h2⟩|⟨id0,n,h2,h3,h4,h5⟩
   ·exact ⟨by simp,.inl ⟨h2,rfl⟩⟩
   ·have hr:=h1.row id0 e sz false rows h3
    refine ⟨hr.rowlen,?_⟩
    rcases hr.lies with ⟨q1,q2⟩|⟨b,cap,cur,q1,q2,q3,q4,q5,q6,q7⟩
    ·exact .inl ⟨by rw [h5];exact q1,q2⟩
    ·refine .inr ⟨b,cap,cur,by rw [h5];exact q1,q2,q3,q4,q5,q6,fun i j r c hi hj=>?_⟩
     obtain ⟨u,u1,u2,u3⟩:=q7 i j r c hi hj
     exact ⟨u,u1,u2,u3.noid (hrc r (List.mem_of_getElem? hi) c (List.mem_of_getElem? hj)) hF'⟩
  ·have hr:=h1.row id e sz f rows h3
   refine ⟨hr.rowlen,?_⟩
   rcases hr.lies with ⟨q1,q2⟩|⟨b,cap,cur,q1,q2,q3,q4,q5,q6,q7⟩
   ·exact .inl ⟨by rw [h4];exact q1,q2⟩
   ·refine .inr ⟨b,cap,cur,by rw [h4];exact q1,q2,q3,q4,q5,q6,fun i j r c hi hj=>?_⟩
    obtain ⟨u,u1,u2,u3⟩:=q7 i j r c hi hj
    refine ⟨u,u1,u2,subC c u (fun id' hid'=>?_) u3⟩
    have hHb2:Hb id=.arr e sz f rows:=by rw [←hus id h2];exact h3
    rw [hbN] at hHb2
    cases hu:upN us id with
    |some ob=>
     rw [hu] at hHb2
     exact hcl _ (upN_mem hu) e sz f rows hHb2 r (List.mem_of_getElem? hi) c (List.mem_of_getElem? hj) id' hid'
    |none=>
     rw [hu] at hHb2
     have hr0:=h0.heap.row id e sz f rows hHb2
     rcases hr0.lies with ⟨_,p2⟩|⟨_,_,_,_,_,_,_,_,_,p7⟩
     ·rw [p2] at hi;simp at hi
     ·obtain ⟨u',_,_,u3'⟩:=p7 i j r c hi hj
      exact u3'.bornD hid'
 have hk:Keeps w0 w (Fr C st.H ρ0) (Fr C HD ρ') st.H HD ρ0 ρ':=by
  refine ⟨k.size,fun t b hf hb=>?_,fun id hi=>?_⟩
  ·obtain ⟨g1,g2⟩:=k.blk t b hf hb
   exact ⟨hF t b g1,g2⟩
  ·obtain ⟨g1,g2⟩:=hold id hi
   obtain ⟨g3,g4⟩:=k.obj id hi
   exact ⟨by rw [g1];exact g3,fun hl=>by
    obtain ⟨g5,g6⟩:=g4 (by rw [←g1];exact hl)
    exact ⟨g5,g2.trans g6⟩⟩
 have soU:∀(k:Nat) id off len,res.flat[k]?=some (.so id off len)→st.H id=.unborn:=fun k id off len h=>hnew id (soIds_get h)
 have cellR:∀(k:Nat) d c u,ret.flat[k]?=some d→res.flat[k]?=some c→exC Hf c d→RelC w (Fr C Hf ρ) Hf ρ c u→RelC w (Fr C HD ρ') HD ρ' (adC nm k d) u:=fun k d c u hk hc hx hu=>by
  have hrc:=hret d (List.mem_of_getElem? hk)
  have hr:∀e sz xs,d=.nw e sz xs→ρ' (nm k)=lieOf c:=fun e sz xs hd=>by
   have:=hρ' k e sz xs (by rw [hk,hd])
   rw [hc] at this
   exact this
  have hun:∀e sz rows,d=.nw e sz rows→HD (nm k)≠.unborn:=fun e sz rows hd=>by
   rcases look (nm k) with ⟨j',e',sz',xs',h1,h2,h3⟩|⟨h1,_⟩
   ·rw [h3];simp
   ·exact (h1 k e sz rows (by rw [hk,hd]) rfl).elim
  unfold exC at hx
  split at hx
  ·rename_i id off len e sz rows
   obtain ⟨rfl,h1,h2⟩:=hx
   simp only [adC]
   cases hu with
   |so _ _ _ _ hne hs=>
    have hs:=hs (by rw [h1];rfl)
    refine .so _ _ _ _ (hun _ _ _ rfl) fun _=>?_
    unfold SoVal at *
    rw [hr _ _ _ rfl]
    subst h2
    exact hs
  ·rename_i id off len t cl rows
   obtain ⟨ht,rfl,hrows⟩:=hx
   simp only [adC]
   have live:∃e sz f rs,Hf id=.arr e sz f rs:=by
    simp only [rowsOf] at hrows
    split at hrows
    ·rename_i e sz f rs hid;exact ⟨e,sz,f,rs,hid⟩
    ·cases hrows
   obtain ⟨e0,sz0,f0,rs0,hid0⟩:=live
   rcases rows_rel h1 hu hrows with ⟨hn,rfl⟩|⟨b,o',cap,sz,rfl,g1,g2,g3⟩
   ·exact .slNil _ _ _ hn
   ·have hz:(rows=[]∧Nil0 (.slice (some ⟨b,o',none⟩) rows.length cap))∨ρ id≠none:=by
     by_cases hz:ρ id=none
     ·left
      rcases (h1.row id e0 sz0 f0 rs0 hid0).lies with ⟨q1,q2⟩|⟨b',cap',cur,q1,q2,q3,_⟩
      ·subst q2
       cases hu with
       |so _ _ _ _ hne hs=>
        have hs:=hs (by rw [hid0];rfl)
        unfold SoVal at hs
        rw [q1] at hs
        refine ⟨?_,hs.2.2⟩
        simp only [rowsOf,hid0] at hrows
        split at hrows
        ·cases hrows;simp
        ·cases hrows
      ·rw [hz] at q1;cases q1
     ·exact .inr hz
    rcases hz with ⟨rfl,hz⟩|hz
    ·exact .slNil _ _ _ hz
    have hbl:b<w.heap.size∧C.p≤b∧∃c s,ρ id=some (b,c,s):=by
     cases hu with
     |so _ _ _ _ hne hs=>
      have hs:=hs (by rw [hid0];rfl)
      unfold SoVal at hs
      rcases (h1.row id e0 sz0 f0 rs0 hid0).lies with ⟨q1,_⟩|⟨b',cap',cur,q1,q2,q3,_⟩
      ·exact (hz q1).elim
      ·rw [q1] at hs
       obtain ⟨o'',he,_⟩:=hs
       cases he
       exact ⟨q3.lt,q2,_,_,q1⟩
    obtain ⟨hb,hp,cc,ss,hρid⟩:=hbl
    have hFb:Fr C HD ρ' t b:=by
     refine ⟨.inl hp,fun ⟨id1,e1,sz1,rows1,cap1,s1,m1,m2⟩=>?_⟩
     rcases arr id1 e1 sz1 false rows1 m1 with ⟨_,k2,hk2,rfl,b2⟩|⟨b2,b3,b4⟩
     ·rcases b2 with ⟨_,b2⟩|⟨id2,n2,p1,p2,p3,p4⟩
      ·rw [b2] at m2;cases m2
      ·rw [p4] at m2
       have:id2=id:=h1.inj id2 id e1 sz1 rows1 e0 sz0 f0 rs0 b cap1 s1 cc ss p2 hid0 m2 hρid
       subst this
       have:=soIds_inj hnd p1 hc
       subst this
       rw [hk] at hk2;cases hk2
     ·rw [b4] at m2
      have:id1=id:=h1.inj id1 id e1 sz1 rows1 e0 sz0 f0 rs0 b cap1 s1 cc ss b3 hid0 m2 hρid
      subst this
      exact b2 (soU k id1 off len hc)
    obtain ⟨news,n1,n2,n3,n4⟩:=app_vals g1 g3
    have hget:∀q,q<rows.length*sz→∃u,news[q]?=some u∧w.cell? ⟨b,o'+q,none⟩=some u:=fun q hq=>by
     have hlt:q<news.length:=by omega
     have:=n2 q news[q] (List.getElem?_eq_getElem hlt)
     rw [Addr.add_lit] at this
     exact ⟨_,List.getElem?_eq_getElem hlt,this⟩
    refine .sl t false rows b o' cap sz (fun q=>news.getD q undef) hb hFb g2 (fun e=>by cases e) (fun i r hi=>g1 r (List.mem_of_getElem? hi)) (fun q hq=>?_) (fun q hq=>?_) (fun i j r c hi hj=>?_)
    ·obtain ⟨u,u1,u2⟩:=hget q hq
     simp [List.getD,u1,u2]
    ·obtain ⟨u,u1,u2⟩:=hget q hq
     have:news.getD q undef=u:=by simp [List.getD,u1]
     rw [this];exact n3 u (List.mem_of_getElem? u1)
    ·obtain ⟨u,u1,u2,u3⟩:=n4 i j r c hi hj
     have:news.getD (i*sz+j) undef=u:=by simp [List.getD,u1]
     rw [this]
     cases hrc with
     |sl _ _ _ _ hn=>exact u3.noid (hn r (List.mem_of_getElem? hi) c (List.mem_of_getElem? hj)) hF'
  ·rename_i e sz rows
   subst hx
   simp only [adC]
   have:=relC_raw hu
   subst this
   refine .so _ _ _ _ (hun _ _ _ rfl) fun _=>?_
   unfold SoVal
   rw [hr _ _ _ rfl]
   exact ⟨rfl,rfl,.nil⟩
  ·rename_i t cl rows
   subst hx
   have:=relC_raw hu
   subst this
   exact .slNil _ _ _ .nil
  ·rename_i t cl xs t' cl' xs'
   obtain ⟨rfl,ht,hb,hcl⟩:=hx
   simp only [adC]
   cases hu with
   |slNil _ _ _ hn=>exact .slNil _ _ _ hn
   |sl _ _ _ b o cap sz vs hb' hf hcap hcl2 hrow hcell hone hrel=>
    have hf':Fr C HD ρ' t' b:=by
     rcases ht with rfl|⟨rfl,rfl⟩
     ·exact hF _ b hf
     ·refine ⟨?_,fun m=>hf.2 (mut2 b m)⟩
      rcases hf.1 with q|⟨q,_⟩
      ·exact .inl q
      ·exact (q rfl).elim
    cases hrc with
    |sl _ _ _ _ hn=>
     exact .sl t' cl' xs b o cap sz vs hb' hf' hcap (fun e=>hcl2 (hcl e)) hrow hcell hone fun i j r c hi hj=>(hrel i j r c hi hj).noid (hn r (List.mem_of_getElem? hi) c (List.mem_of_getElem? hj)) hF'
  ·subst hx
   exact hu.noid (.raw _) hF'
  ·subst hx
   exact hu.noid (.str _) hF'
  ·exact hx.elim
 refine ⟨ρ',⟨⟨h1.below,hrowOf,?_,?_⟩,fun t=>(h0.slot t).keep hk,h0.nodef,C.keepX hk h0.ghost⟩,?_⟩
 ·intro i1 i2 e1 s1 r1 e2 s2 f2 r2 b c s c' s' g1 g2 hρ1 hρ2
  have key:∀i e sz f rows c s,HD i=.arr e sz f rows→ρ' i=some (b,c,s)→∃i0 f',Hf i0=.arr e sz f' rows∧ρ i0=some (b,c,s)∧(f=false→f'=false)∧
    ((st.H i≠.unborn∧i0=i)∨(st.H i0=.unborn∧∃(k:Nat) (n:Nat),i=nm k∧res.flat[k]?=some (.so i0 0 n))):=fun i e sz f rows c s hi hρ=>by
   rcases arr i e sz f rows hi with ⟨rfl,k,hk,rfl,b2⟩|⟨b2,b3,b4⟩
   ·rcases b2 with ⟨_,b2⟩|⟨id2,n2,p1,p2,p3,p4⟩
    ·rw [b2] at hρ;cases hρ
    ·exact ⟨id2,false,p2,by rw [←p4];exact hρ,fun h=>h,.inr ⟨soU k _ _ _ p1,k,n2,rfl,p1⟩⟩
   ·exact ⟨i,f,b3,by rw [←b4];exact hρ,fun h=>h,.inl ⟨b2,rfl⟩⟩
  obtain ⟨j1,f1',a1,a2,a3,a4⟩:=key i1 e1 s1 false r1 c s g1 hρ1
  obtain ⟨j2,f2',b1,b2,b3,b4⟩:=key i2 e2 s2 f2 r2 c' s' g2 hρ2
  have a5:=a3 rfl
  subst a5
  have:j1=j2:=h1.inj j1 j2 e1 s1 r1 e2 s2 f2' r2 b c s c' s' a1 b1 a2 b2
  subst this
  rcases a4 with ⟨a4,rfl⟩|⟨a4,k1,n1,rfl,a6⟩
  ·rcases b4 with ⟨b4,rfl⟩|⟨b4,_⟩
   ·rfl
   ·exact (a4 b4).elim
  ·rcases b4 with ⟨b4,rfl⟩|⟨b4,k2,n2,rfl,b6⟩
   ·exact (b4 a4).elim
   ·rw [soIds_inj hnd a6 b6]
 ·rw [←hHD]
  refine fin_adH nm _ _ ?_
  obtain ⟨N,hN⟩:=h0.heap.fin
  exact ⟨N,fun k d hk=>by
   have:=hN k d hk
   by_cases e:Hb (k,d)=.unborn
   ·exact e
   ·exact ((hbb (k,d)).1 e this).elim⟩
 ·cases res with
  |c x=>
   cases ret with
   |c y=>
    cases hv with
    |c _ _ hx=>exact .c _ _ (cellR 0 y x _ rfl rfl hex hx)
   |_=>exact hex.elim
  |g xs=>
   cases ret with
   |g ys=>
    cases hv with
    |g _ vs hl hx=>
     obtain ⟨g1,g2⟩:=exL_get (H:=Hf) (cs:=xs) (ds:=ys) hex
     refine .g _ vs (by rw [adL_len];omega) fun k c hc=>?_
     rw [adL_at,Option.map_eq_some_iff] at hc
     obtain ⟨d,hd,rfl⟩:=hc
     obtain ⟨c0,hc0,hx0⟩:=g2 k d hd
     rw [Nat.zero_add]
     exact cellR k d c0 _ hd hc0 hx0 (hx k c0 hc0)
   |_=>exact hex.elim
  |t ps=>
   cases ret with
   |t qs=>
    cases hv with
    |t _ vs hl hx=>
     obtain ⟨g1,g2⟩:=exT_get nm (H:=Hf) 0 (ps:=ps) (qs:=qs) hex
     have hlen2:(adT nm 0 qs).length=qs.length:=by
      have:∀(qs:List (Bool×List AC)) (k:Nat),(adT nm k qs).length=qs.length:=fun qs=>by
       induction qs with
       |nil=>intro k;rfl
       |cons q r ih=>intro k;obtain ⟨b,cs⟩:=q;simp [adT,ih]
      exact this _ _
     refine .t _ vs (by rw [hlen2];omega) fun j b cs hj=>?_
     have hjl:j<qs.length:=by rw [←hlen2];exact (List.getElem?_eq_some_iff.1 hj).1
     obtain ⟨b0,ds0,hq⟩:∃b0 ds0,qs[j]?=some (b0,ds0):=⟨(qs[j]).1,(qs[j]).2,by simp [hjl]⟩
     obtain ⟨cs0,k',p1,p2,p3,p4,p5⟩:=g2 j b0 ds0 hq
     rw [hj] at p5
     simp only [Option.some.injEq,Prod.mk.injEq] at p5
     obtain ⟨rfl,rfl⟩:=p5
     have hxx:=hx j _ _ p1
     generalize vs.getD j undef=u at hxx
     obtain ⟨l1,l2⟩:=exL_get p2
     rw [Nat.zero_add]
     cases hxx with
     |c x _ hx0=>
      match ds0,l1 with
      |[d0],_=>
       obtain ⟨c0,hc0,hx1⟩:=l2 0 d0 rfl
       simp at hc0
       subst hc0
       exact .c _ _ (cellR (k'+0) d0 x _ (p4 0 d0 rfl) (p3 0 x rfl) hx1 hx0)
     |g _ us hl hu=>
      refine .g _ us (by rw [adL_len];omega) fun i c hc=>?_
      rw [adL_at,Option.map_eq_some_iff] at hc
      obtain ⟨d,hd,rfl⟩:=hc
      obtain ⟨c0,hc0,hx0⟩:=l2 i d hd
      exact cellR (k'+i) d c0 _ (p4 i d hd) (p3 i c0 hc0) hx0 (hu i c0 hc0)
   |_=>exact hex.elim
end Go.AE
