/- Parts of the walk: Ck. -/
import Derived.Test.YtlhageadjmoajaaDoorGf
import Derived.Test.YtlhageadjmoajaaDoorChecked
import Derived.KernelRfl
set_option maxRecDepth 20000
namespace Go.Proofs.YtlhageadjmoajaaDoor.A
open Go Go.AM Go.Proofs
theorem k3:cFn Tryd.prog 3=some c3.erase:=by kernel_rfl
theorem k4:cFn Tryd.prog 4=some c4.erase:=by kernel_rfl
theorem k5:cFn Tryd.prog 5=some c5.erase:=by kernel_rfl
theorem k6:cFn Tryd.prog 6=some c6.erase:=by kernel_rfl
theorem k7:cFn Tryd.prog 7=some c7.erase:=by kernel_rfl
theorem k8:cFn Tryd.prog 8=some c8.erase:=by kernel_rfl
theorem k9:cFn Tryd.prog 9=some c9.erase:=by kernel_rfl
theorem k10:cFn Tryd.prog 10=some c10.erase:=by kernel_rfl
theorem k11:cFn Tryd.prog 11=some c11.erase:=by kernel_rfl
theorem k12:cFn Tryd.prog 12=some c12.erase:=by kernel_rfl
theorem k13:cFn Tryd.prog 13=some c13.erase:=by kernel_rfl
theorem k14:cFn Tryd.prog 14=some c14.erase:=by kernel_rfl
theorem k15:cFn Tryd.prog 15=some c15.erase:=by kernel_rfl
theorem k16:cFn Tryd.prog 16=some c16.erase:=by kernel_rfl
theorem k17:cFn Tryd.prog 17=some c17.erase:=by kernel_rfl
theorem k18:cFn Tryd.prog 18=some c18.erase:=by kernel_rfl
theorem k19:cFn Tryd.prog 19=some c19.erase:=by kernel_rfl
theorem k20:cFn Tryd.prog 20=some c20.erase:=by kernel_rfl
theorem k21:cFn Tryd.prog 21=some c21.erase:=by kernel_rfl
theorem k22:cFn Tryd.prog 22=some c22.erase:=by kernel_rfl
theorem k23:cFn Tryd.prog 23=some c23.erase:=by kernel_rfl
theorem k24:cFn Tryd.prog 24=some c24.erase:=by kernel_rfl
theorem k25:cFn Tryd.prog 25=some c25.erase:=by kernel_rfl
theorem k26:cFn Tryd.prog 26=some c26.erase:=by kernel_rfl
theorem k27:cFn Tryd.prog 27=some c27.erase:=by kernel_rfl
theorem k28:cFn Tryd.prog 28=some c28.erase:=by kernel_rfl
theorem k29:cFn Tryd.prog 29=some c29.erase:=by kernel_rfl
theorem k30:cFn Tryd.prog 30=some c30.erase:=by kernel_rfl
theorem k31:cFn Tryd.prog 31=some c31.erase:=by kernel_rfl
theorem k32:cFn Tryd.prog 32=some c32.erase:=by kernel_rfl
theorem k33:cFn Tryd.prog 33=some c33.erase:=by kernel_rfl
theorem k34:cFn Tryd.prog 34=some c34.erase:=by kernel_rfl
theorem k35:cFn Tryd.prog 35=some c35.erase:=by kernel_rfl
theorem k37:cFn Tryd.prog 37=some c37.erase:=by kernel_rfl
theorem k38:cFn Tryd.prog 38=some c38.erase:=by kernel_rfl
theorem k39:cFn Tryd.prog 39=some c39.erase:=by kernel_rfl
theorem k40:cFn Tryd.prog 40=some c40.erase:=by kernel_rfl
theorem k41:cFn Tryd.prog 41=some c41.erase:=by kernel_rfl
theorem k42:cFn Tryd.prog 42=some c42.erase:=by kernel_rfl
theorem k43:cFn Tryd.prog 43=some c43.erase:=by kernel_rfl
theorem k46:cFn Tryd.prog 46=some c46.erase:=by kernel_rfl
theorem k47:cFn Tryd.prog 47=some c47.erase:=by kernel_rfl
theorem k48:cFn Tryd.prog 48=some c48.erase:=by kernel_rfl
theorem k49:cFn Tryd.prog 49=some c49.erase:=by kernel_rfl
theorem k50:cFn Tryd.prog 50=some c50.erase:=by kernel_rfl
theorem k51:cFn Tryd.prog 51=some c51.erase:=by kernel_rfl
theorem k52:cFn Tryd.prog 52=some c52.erase:=by kernel_rfl
theorem k53:cFn Tryd.prog 53=some c53.erase:=by kernel_rfl
theorem k54:cFn Tryd.prog 54=some c54.erase:=by kernel_rfl
theorem k55:cFn Tryd.prog 55=some c55.erase:=by kernel_rfl
theorem k56:cFn Tryd.prog 56=some c56.erase:=by kernel_rfl
theorem k58:cFn Tryd.prog 58=some c58.erase:=by kernel_rfl
theorem k60:cFn Tryd.prog 60=some c60.erase:=by kernel_rfl
theorem k61:cFn Tryd.prog 61=some c61.erase:=by kernel_rfl
theorem k62:cFn Tryd.prog 62=some c62.erase:=by kernel_rfl
theorem k63:cFn Tryd.prog 63=some c63.erase:=by kernel_rfl
theorem k64:cFn Tryd.prog 64=some c64.erase:=by kernel_rfl
theorem k65:cFn Tryd.prog 65=some c65.erase:=by kernel_rfl
theorem k66:cFn Tryd.prog 66=some c66.erase:=by kernel_rfl
theorem k67:cFn Tryd.prog 67=some c67.erase:=by kernel_rfl
theorem k69:cFn Tryd.prog 69=some c69.erase:=by kernel_rfl
theorem k70:cFn Tryd.prog 70=some c70.erase:=by kernel_rfl
theorem k71:cFn Tryd.prog 71=some c71.erase:=by kernel_rfl
theorem k72:cFn Tryd.prog 72=some c72.erase:=by kernel_rfl
theorem k73:cFn Tryd.prog 73=some c73.erase:=by kernel_rfl
theorem k74:cFn Tryd.prog 74=some c74.erase:=by kernel_rfl
theorem k75:cFn Tryd.prog 75=some c75.erase:=by kernel_rfl
theorem k76:cFn Tryd.prog 76=some c76.erase:=by kernel_rfl
theorem k77:cFn Tryd.prog 77=some c77.erase:=by kernel_rfl
theorem k78:cFn Tryd.prog 78=some c78.erase:=by kernel_rfl
theorem k79:cFn Tryd.prog 79=some c79.erase:=by kernel_rfl
theorem k80:cFn Tryd.prog 80=some c80.erase:=by kernel_rfl
theorem k81:cFn Tryd.prog 81=some c81.erase:=by kernel_rfl
theorem k82:cFn Tryd.prog 82=some c82.erase:=by kernel_rfl
theorem k83:cFn Tryd.prog 83=some c83.erase:=by kernel_rfl
theorem k84:cFn Tryd.prog 84=some c84.erase:=by kernel_rfl
theorem k85:cFn Tryd.prog 85=some c85.erase:=by kernel_rfl
theorem k86:cFn Tryd.prog 86=some c86.erase:=by kernel_rfl
theorem k87:cFn Tryd.prog 87=some c87.erase:=by kernel_rfl
theorem k88:cFn Tryd.prog 88=some c88.erase:=by kernel_rfl
theorem k89:cFn Tryd.prog 89=some c89.erase:=by kernel_rfl
theorem k90:cFn Tryd.prog 90=some c90.erase:=by kernel_rfl
theorem k92:cFn Tryd.prog 92=some c92.erase:=by kernel_rfl
theorem tableOK:AllOK Tryd.prog table:=⟨k3,k4,k5,k6,k7,k8,k9,k10,k11,k12,k13,k14,k15,k16,k17,k18,k19,k20,k21,k22,k23,k24,k25,k26,k27,k28,k29,k30,k31,k32,k33,k34,k35,k37,k38,k39,k40,k41,k42,k43,k46,k47,k48,k49,k50,k51,k52,k53,k54,k55,k56,k58,k60,k61,k62,k63,k64,k65,k66,k67,k69,k70,k71,k72,k73,k74,k75,k76,k77,k78,k79,k80,k81,k82,k83,k84,k85,k86,k87,k88,k89,k90,k92,trivial⟩
theorem mixed:Tryd.prog.follows .mixedOrders=true:=by kernel_rfl
end Go.Proofs.YtlhageadjmoajaaDoor.A
