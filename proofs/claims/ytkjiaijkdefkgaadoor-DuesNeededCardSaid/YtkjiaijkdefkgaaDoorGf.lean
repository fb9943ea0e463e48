/- Parts of the walk: T1, AMSelf. -/
import Derived.Test.YtkjiaijkdefkgaaDoorGe
import Derived.Test.YtkjiaijkdefkgaaDoorRows
import Derived.Test.YtkjiaijkdefkgaaDoorChecked
import Derived.KernelRfl
import Derived.SevenTiedAt
import Derived.Stop.Joined
import Derived.ProofKit
import Derived.LaidMore
namespace Go.Proofs.YtkjiaijkdefkgaaDoor.A
open Go Go.AM Go.Proofs Go.ChangeShapes
def powZ:List Int:=[1,10,100,1000,10000,100000,1000000,10000000,100000000,1000000000,10000000000,100000000000,1000000000000,10000000000000,100000000000000,1000000000000000,10000000000000000,100000000000000000,1000000000000000000,10000000000000000000]
theorem powLaid:(Rows.laid_internal_strconv_uint64pow10:DataW Unit)= .agg (powZ.map fun n=> .lit (.int .u64 n)):=rfl
theorem tab_cells {W : World} {l : List (String × DataW Unit)} {ps : List MemPlace} (h : DataW.LaidVars Tryd.prog W l ps) (hm : ("internal/strconv.uint64pow10", (Rows.laid_internal_strconv_uint64pow10 : DataW Unit)) ∈ l) :
  ∀r,r<20→W.cell? ⟨1,r,none⟩=some (.int .u64 (powZ.getD r 0)):=by
 induction l generalizing ps with
 | nil=>cases hm
 | cons x l ih=>
  obtain ⟨nm,d⟩:=x
  obtain ⟨g,t,cs,fuel,p,q,hg,ht,hv,hd,hrest,-⟩:=h
  rcases List.mem_cons.1 hm with he | hm
  ·cases he
   intro r hr
   obtain rfl := Option.some.inj ((show Tryd.prog.globalNamed "internal/strconv.uint64pow10" = some 1 by kernel_rfl).symm.trans hg)
   obtain rfl:=Option.some.inj ((show (Tryd.prog.globals[1]?).map (·.type)=some 158 by kernel_rfl).symm.trans ht)
   obtain ⟨xs,m,_,ex,_,hl,hel⟩:=DataW.trod_array (show Tryd.prog.underlying 158=some (.array 20 150) by kernel_rfl) hd
   have c5:Tryd.prog.cellsOf 150=1:=by kernel_rfl
   have hE:=hel r hr
   rw [c5,Nat.mul_one,List.getElem?_eq_getElem (by omega)] at hE
   obtain ⟨z,e1,e2,_⟩:=DataW.trod_int (show Tryd.prog.underlying 150=some (.int .u64) by kernel_rfl) hE
   have hlen:powZ.length=20:=rfl
   have e3:(xs.map (·.1))=powZ.map fun n=> .lit (.int .u64 n):=(DataW.agg.inj (powLaid.symm.trans (Prod.mk.inj ex).1)).symm
   have e4:(xs.map (·.1))[r]? =(powZ.map fun n=>(DataW.lit (.int .u64 n):DataW Unit))[r]? :=by rw [e3]
   rw [List.getElem?_map,List.getElem?_map,List.getElem?_eq_getElem (by omega:r<xs.length),List.getElem?_eq_getElem (by omega:r<powZ.length),e2] at e4
   have hz:z=powZ.getD r 0:=by
    simp only [Option.map_some,Option.some.injEq,DataW.lit.injEq,Lit.int.injEq,true_and] at e4
    rw [e4,List.getD,List.getElem?_eq_getElem (by omega:r<powZ.length)];rfl
   rw [World.var?_cell hg hv r,←hz]
   have:cs.toList[r]? =some (.int .u64 z):=by
    have h0:((cs.toList.drop r).take 1)[0]? =some (.int .u64 z):=by rw [e1];rfl
    simpa using h0
   simpa using this
  ·exact ih hrest hm
theorem tab_ok {W : World} {l : List (String × DataW Unit)} {ps : List MemPlace} (h : DataW.LaidVars Tryd.prog W l ps) (hm : ("internal/strconv.uint64pow10", (Rows.laid_internal_strconv_uint64pow10 : DataW Unit)) ∈ l) : TabOK Tryd.prog W (fun _ => False) := by
 have hc:=tab_cells h hm
 have ht:tabOf Tryd.prog=[(1,pow10)]:=by
  have:(tabOf Tryd.prog).map (·.1)=[1]:=by kernel_rfl
  unfold tabOf at this ⊢
  split
  ·rename_i g hg;rw [hg] at this;simp at this;rw [this]
  ·rename_i hg;rw [hg] at this;cases this
 intro p hp
 rw [ht] at hp
 rw [List.mem_singleton] at hp
 subst hp
 refine ⟨?_,fun h=>h,fun j c hj=> ?_⟩
 ·have h0:=hc 0 (by omega)
  unfold World.cell? at h0
  cases hh:W.heap[1]? with
  | none=>rw [hh] at h0;cases h0
  | some o=>exact (Array.getElem?_eq_some_iff.1 hh).1
 ·have hj20:j<20:=(List.getElem?_eq_some_iff.1 hj).1
  have:c= .int .u64 (powZ.getD j 0):=by
   have e:pow10=powZ.map fun n=> .int .u64 n:=rfl
   rw [e,List.getElem?_map] at hj
   rw [List.getD]
   cases hx:powZ[j]? with
   | none=>rw [hx] at hj;cases hj
   | some x=>rw [hx] at hj;simpa using hj.symm
  subst this
  exact ⟨_,hc j hj20,.int _ _⟩
end Go.Proofs.YtkjiaijkdefkgaaDoor.A
namespace Go.AM
open Go
def gSelf(E:Env)(n f:Nat):List D→Tree (List D):=fun ds=>(callN E n f (ds.map .d) []).bind fun p=>match outDat p.2 p.1 with
 | some rs=> .ret rs
 | none=> .stuck
theorem PureOK.self{P:Program}{E:Env}(hm:P.follows .mixedOrders=true)(hE:EnvOK P E)(n f:Nat):PureOK P f (gSelf E n f):=PureOK.of_run hm hE fun ds rs h=>by
 unfold gSelf at h
 obtain ⟨⟨v,ob⟩,h1,h2⟩:=Tree.bind_eval.1 h
 simp only at h2
 split at h2
 ·rename_i rs' hrs
  simp only [Tree.eval,Option.some.injEq] at h2
  subst h2
  exact ⟨n,v,ob,h1,hrs⟩
 ·simp [Tree.eval] at h2
mutual
def D.eqb:D→D→Bool
 | .bool a,.bool b=>a==b
 | .int j m,.int k n=>decide (j=k)&&m==n
 | .str s,.str t=>s==t
 | .sl e n es,.sl f m fs=>Sh.beq e f&&(n==m&&D.eqbL es fs)
 | .agg cs,.agg ds=>D.eqbL cs ds
 | .nilp,.nilp=>true
 | .nilm,.nilm=>true
 | .nilf,.nilf=>true
 | .nili,.nili=>true
 | _,_=>false
def D.eqbL:List D→List D→Bool
 | [],[]=>true
 | x :: xs,y :: ys=>D.eqb x y&&D.eqbL xs ys
 | _,_=>false
end
mutual
theorem D.eqb_eq: ∀(x y:D),D.eqb x y=true→x=y
 | .bool a,y,h=>by cases y <;> simp [D.eqb] at h;rw [h]
 | .int j m,y,h=>by cases y <;> simp [D.eqb] at h;rw [h.1,h.2]
 | .str s,y,h=>by cases y <;> simp [D.eqb] at h;rw [h]
 | .sl e n es,y,h=>by
  cases y <;> simp only [D.eqb,Bool.false_eq_true,Bool.and_eq_true,beq_iff_eq] at h
  rw [Sh.beq_eq h.1,h.2.1,D.eqbL_eq es _ h.2.2]
 | .agg cs,y,h=>by
  cases y <;> simp only [D.eqb,Bool.false_eq_true] at h
  rw [D.eqbL_eq cs _ h]
 | .nilp,y,h=>by cases y <;> simp [D.eqb] at h;rfl
 | .nilm,y,h=>by cases y <;> simp [D.eqb] at h;rfl
 | .nilf,y,h=>by cases y <;> simp [D.eqb] at h;rfl
 | .nili,y,h=>by cases y <;> simp [D.eqb] at h;rfl
theorem D.eqbL_eq: ∀(xs ys:List D),D.eqbL xs ys=true→xs=ys
 | [],ys,h=>by cases ys <;> simp [D.eqbL] at h;rfl
 | x :: xs,ys,h=>by
  cases ys with
  | nil=>simp [D.eqbL] at h
  | cons y ys=>
   simp only [D.eqbL,Bool.and_eq_true] at h
   rw [D.eqb_eq x y h.1,D.eqbL_eq xs ys h.2]
end
def gAt:List (List D×List D)→List D→Tree (List D)
 | [],_=> .stuck
 | (xs,rs) :: l,ds=>match D.eqbL ds xs with
  | true=> .ret rs
  | false=>gAt l ds
theorem gAt_mem: ∀{l:List (List D×List D)} {ds rs:List D},(gAt l ds).eval=some rs→(ds,rs)∈l
 | [],ds,rs,h=>by simp [gAt,Tree.eval] at h
 | (xs,r) :: l,ds,rs,h=>by
  simp only [gAt] at h
  split at h
  ·rename_i he
   simp only [Tree.eval,Option.some.injEq] at h
   rw [D.eqbL_eq _ _ he,h]
   exact List.mem_cons_self
  ·exact List.mem_cons_of_mem _ (gAt_mem h)
theorem PureOK.at{P:Program}{E:Env}(hm:P.follows .mixedOrders=true)(hE:EnvOK P E){f:Nat}{l:List (List D×List D)}(h: ∀p∈l,∃n,(callN E n f (p.1.map .d) []).out=some p.2):PureOK P f (gAt l):=
 PureOK.run hm hE fun _ _ hr=>h _ (gAt_mem hr)
def keyOf:List (Nat×Nat)→Nat
 | []=>0
 | (k,_) :: _=>k
def runAt(E:Env)(cf:CallF)(n:Nat):AC→List (Nat×Nat)→St→Tree (Ex×St)
 | .seq a b,p,st=>match hasL (keyOf p) a with
  | true=>(runAt E cf n a p st).bind fun (e,st')=>match e with
   | .nrm=>runM E cf n b st'
   | .ext id=> .ret (.ext id,st')
   | .ret=> .ret (.ret,st')
  | false=>runAt E cf n b p st
 | .cond _ a b,p,st=>match hasL (keyOf p) a with
  | true=>runAt E cf n a p st
  | false=>runAt E cf n b p st
 | .block id c,p,st=>(runAt E cf n c p st).bind fun (e,st')=>match e with
  | .ext j=>if Nat.beq j id then .ret (.nrm,st') else .ret (.ext j,st')
  | .nrm=> .ret (.nrm,st')
  | .ret=> .ret (.ret,st')
 | .loop _ live c,p,st=>match p with
  | []=> .stuck
  | [(_,j)]=>iterM (maskSt live) (runM E cf n c) j st
  | (_,j) :: q :: r=>(runAt E cf n c (q :: r) st).bind fun (e,st')=>match e with
   | .nrm=>iterM (maskSt live) (runM E cf n c) j (maskSt live st')
   | .ext id=> .ret (.ext id,st')
   | .ret=> .ret (.ret,st')
 | .scope c,p,st=>runAt E cf n c p st
 | _,_,_=> .stuck
def resumeL(E:Env)(cf:CallF)(n:Nat)(p:List (Nat×Nat))(fn:AFn)(st:St):Tree (V×Obs):=
 leave fn (runAt E cf n fn.body p st)
end Go.AM
