import JvmDerived
import JvmDerived.Pilot.@@N@@Statement
import JvmDerived.Pilot.@@N@@Code
set_option linter.unusedVariables false
set_option linter.unusedSimpArgs false
namespace Jvm.OM
open Sem ClassFile Op Lib Jvm.Stand Jvm.Free Jvm.LawKit Jvm.RoadKit
section Fix
variable {α ρ:Type}
abbrev Plan(α ρ:Type):=Option (ρ⊕(α⊕(α×(ρ→α))))
def run(P:α→Plan α ρ)(f:α→Option ρ)(c:α):Option ρ:=
 match P c with
 |none=>none
 |some (.inl r)=>some r
 |some (.inr (.inl c'))=>f c'
 |some (.inr (.inr q))=>(f q.1).bind fun r=>f (q.2 r)
def iter(P:α→Plan α ρ):Nat→α→Option ρ
 |0,_=>none
 |n+1,c=>run P (iter P n) c
theorem run_mono{P:α→Plan α ρ}{f g:α→Option ρ}(h:∀c r,f c=some r→g c=some r){c:α}{r:ρ}(e:run P f c=some r):run P g c=some r:=by
 unfold run at e ⊢
 split at e
 ·cases e
 ·exact e
 ·exact h _ _ e
 ·rename_i q _
  obtain⟨x,h1,h2⟩:=Option.bind_eq_some_iff.mp e
  exact Option.bind_eq_some_iff.mpr ⟨x,h _ _ h1,h _ _ h2⟩
theorem iter_succ{P:α→Plan α ρ}:∀ {n:Nat} {c:α} {r:ρ},iter P n c=some r→iter P (n+1) c=some r
 |0,_,_,e=>by cases e
 |n+1,c,r,e=>run_mono (f:=iter P n) (g:=iter P (n+1)) (fun _ _ h=>iter_succ h) e
theorem iter_le{P:α→Plan α ρ}{n k:Nat}{c:α}{r:ρ}(e:iter P n c=some r)(h:n≤k):iter P k c=some r:=by
 induction h with
 |refl=>exact e
 |step _ ih=>exact iter_succ ih
theorem exists_fix(P:α→Plan α ρ):∃f:α→Option ρ,(∀c,f c=run P f c)∧∀c r,f c=some r→∃n,iter P n c=some r:=by
 classical
 have key:∃f:α→Option ρ,∀c r,f c=some r↔∃n,iter P n c=some r:=by
  refine⟨fun c=>if h:∃r n,iter P n c=some r then some h.choose else none,fun c r=>?_⟩
  constructor
  ·intro e
   dsimp only at e
   split at e
   ·rename_i h
    cases e
    exact h.choose_spec
   ·cases e
  ·rintro ⟨n,e⟩
   have h:∃r n,iter P n c=some r:=⟨r,n,e⟩
   dsimp only
   rw[dif_pos h]
   obtain⟨k,e'⟩:=h.choose_spec
   have a:=iter_le e (Nat.le_max_left n k)
   have b:=iter_le e' (Nat.le_max_right n k)
   rw[a] at b
   exact b.symm
 obtain⟨f,hf⟩:=key
 refine⟨f,fun c=>?_,fun c r h=>(hf c r).mp h⟩
 have hle:∀n c r,iter P n c=some r→f c=some r:=fun n c r e=>(hf c r).mpr ⟨n,e⟩
 apply Option.ext
 intro r
 constructor
 ·intro e
  obtain⟨n,e⟩:=(hf c r).mp e
  cases n with
  |zero=>cases e
  |succ n=>exact run_mono (fun c r h=>hle n c r h) e
 ·intro e
  refine (hf c r).mpr ?_
  unfold run at e
  split at e
  ·cases e
  ·rename_i q hq
   exact⟨1,by simp only[iter,run,hq];exact e⟩
  ·rename_i c' hq
   obtain⟨n,h⟩:=(hf _ _).mp e
   exact⟨n+1,by simp only[iter,run,hq];exact h⟩
  ·rename_i q hq
   obtain⟨x,h1,h2⟩:=Option.bind_eq_some_iff.mp e
   obtain⟨n,h1⟩:=(hf _ _).mp h1
   obtain⟨k,h2⟩:=(hf _ _).mp h2
   exact⟨max n k+1,by
    simp only[iter,run,hq]
    rw[iter_le h1 (Nat.le_max_left n k)]
    exact iter_le h2 (Nat.le_max_right n k)⟩
end Fix
def setL:List Value→Nat→Value→List Value
 |[],0,v=>[v]
 |[],n+1,v => .null::setL [] n v
 |_::r,0,v=>v::r
 |x::r,n+1,v=>x::setL r n v
def nolong:Value→Value
 | .long _ => .null
 | .double _ => .null
 |v=>v
def clrL:List Value→Nat→List Value
 |[],_=>[]
 |x::r,0=>nolong x::r
 |x::r,n+1=>x::clrL r n
def st1(ls:List Value)(i:Nat)(v:Value):List Value:=match i with
 |0=>setL ls 0 v
 |j+1=>setL (clrL ls j) (j+1) v
def st2(ls:List Value)(i:Nat)(v:Value):List Value:=setL (st1 ls i v) (i+1) .null
def entL:List Value→List Value
 |[]=>[]
 | .long v::r => .long v :: .null::entL r
 |v::r=>v::entL r
def ii(g:Int32→Int32→Int32):List Value→Option (List Value)
 | .int y :: .int x::r=>some (.int (g x y)::r)
 |_=>none
def iz(g:Int32→Int32→Int32):List Value→Option (List Value)
 | .int y :: .int x::r=>if y=0 then none else some (.int (g x y)::r)
 |_=>none
def ll(g:Int64→Int64→Int64):List Value→Option (List Value)
 | .long y :: .long x::r=>some (.long (g x y)::r)
 |_=>none
def lz(g:Int64→Int64→Int64):List Value→Option (List Value)
 | .long y :: .long x::r=>if y=0 then none else some (.long (g x y)::r)
 |_=>none
def li(g:Int64→Int32→Int64):List Value→Option (List Value)
 | .int y :: .long x::r=>some (.long (g x y)::r)
 |_=>none
def i1(g:Int32→Value):List Value→Option (List Value)
 | .int x::r=>some (g x::r)
 |_=>none
def l1(g:Int64→Value):List Value→Option (List Value)
 | .long x::r=>some (g x::r)
 |_=>none
def lc(g:Int64→Int64→Int32):List Value→Option (List Value)
 | .long y :: .long x::r=>some (.int (g x y)::r)
 |_=>none
def pop1:List Value→Option (List Value)
 | .int _::r=>some r
 | .ref _::r=>some r
 |_=>none
def dup1:List Value→Option (List Value)
 | .int x::r=>some (.int x :: .int x::r)
 | .ref x::r=>some (.ref x :: .ref x::r)
 |_=>none
def dup2':List Value→Option (List Value)
 | .int y :: .int x::r=>some (.int y :: .int x :: .int y :: .int x::r)
 | .int y :: .ref x::r=>some (.int y :: .ref x :: .int y :: .ref x::r)
 | .long x::r=>some (.long x :: .long x::r)
 |_=>none
def alu(i:Instr)(st:List Value):Option (List Value):=match i with
 | .iconst i=>some (.int (Int32.ofInt i)::st)
 | .lconst k=>some (.long (Int64.ofNat k)::st)
 | .ldc2_w n=>some (.long (Int64.ofNat n)::st)
 | .iadd=>ii (fun x y=>x+y) st
 | .isub=>ii (fun x y=>x-y) st
 | .imul=>ii (fun x y=>x*y) st
 | .idiv=>iz (fun x y=>x/y) st
 | .irem=>iz (fun x y=>x%y) st
 | .ineg=>i1 (fun x => .int (-x)) st
 | .iand=>ii (fun x y=>x&&&y) st
 | .ior=>ii (fun x y=>x|||y) st
 | .ixor=>ii (fun x y=>x^^^y) st
 | .ishl=>ii (fun x y=>x<<<(y&&&31)) st
 | .ishr=>ii (fun x y=>x>>>(y&&&31)) st
 | .iushr=>ii (fun x y=>XT.ushr x y) st
 | .ladd=>ll (fun x y=>x+y) st
 | .lsub=>ll (fun x y=>x-y) st
 | .lmul=>ll (fun x y=>x*y) st
 | .land=>ll (fun x y=>x&&&y) st
 | .lor=>ll (fun x y=>x|||y) st
 | .lxor=>ll (fun x y=>x^^^y) st
 | .lshl=>li (fun x y=>x<<<(y.toInt64&&&63)) st
 | .lushr=>li (fun x y=>XT.ushrL x y) st
 | .lrem=>lz (fun x y=>x%y) st
 | .lcmp=>lc (fun x y=>XT.cmpL x y) st
 | .i2l=>i1 (fun x => .long x.toInt64) st
 | .l2i=>l1 (fun x => .int x.toInt32) st
 | .i2b=>i1 (fun x => .int x.toInt8.toInt32) st
 | .pop=>pop1 st
 | .dup=>dup1 st
 | .dup2=>dup2' st
 |_=>none
def ldI(ls:List Value)(k:Nat):Option Value:=match ls[k]? with
 |some (.int v)=>some (.int v)
 |_=>none
def ldA(ls:List Value)(k:Nat):Option Value:=match ls[k]? with
 |some (.ref v)=>some (.ref v)
 |_=>none
def ldL(ls:List Value)(k:Nat):Option Value:=match ls[k]? with
 |some (.long v)=>some (.long v)
 |_=>none
def incI(ls:List Value)(k:Nat)(c:Int):Option (List Value):=match ls[k]? with
 |some (.int v)=>some (st1 ls k (.int (v+Int32.ofInt c)))
 |_=>none
def stI'(ls:List Value)(k:Nat):List Value→Option (List Value×List Value)
 | .int v::st=>some (st1 ls k (.int v),st)
 |_=>none
def stA'(ls:List Value)(k:Nat):List Value→Option (List Value×List Value)
 | .ref v::st=>some (st1 ls k (.ref v),st)
 |_=>none
def stL'(ls:List Value)(k:Nat):List Value→Option (List Value×List Value)
 | .long v::st=>some (st2 ls k (.long v),st)
 |_=>none
def loc(i:Instr)(ls st:List Value):Option (List Value×List Value):=match i with
 | .iload k=>(ldI ls k).map fun v=>(ls,v::st)
 | .aload k=>(ldA ls k).map fun v=>(ls,v::st)
 | .lload k=>(ldL ls k).map fun v=>(ls,v::st)
 | .istore k=>stI' ls k st
 | .astore k=>stA' ls k st
 | .lstore k=>stL' ls k st
 | .iinc k c=>(incI ls k c).map fun l=>(l,st)
 |i=>(alu i st).map fun st'=>(ls,st')
def cnd{β:Type}(c:ClassFile.Cond)(x y:Int32)(a b:β):β:=match c with
 | .eq=>if x=y then a else b
 | .ne=>if x=y then b else a
 | .lt=>if x<y then a else b
 | .ge=>if x<y then b else a
 | .gt=>if y<x then a else b
 | .le=>if y<x then b else a
def swc{β:Type}(x:Int32):Int→List Int→(Nat→β)→β→β
 |_,[],_,d=>d
 |lo,t::ts,k,d=>if x=Int32.ofInt lo then k t.toNat else swc x (lo+1) ts k d
def tk(kp:Option Nat)(ls:List Value):List Value:=match kp with
 |none=>ls
 |some k=>ls.take k
def takeA:Nat→List Value→List Value→Option (List Value×List Value)
 |0,acc,st=>some (acc,st)
 |n+1,acc,v::st=>takeA n (v::acc) st
 |_+1,_,[]=>none
def cats(st:List Value):Nat:=(st.map fun v=>v.category).sum
section Machine
variable {τ:Type}
abbrev Cfg(τ:Type):=Nat×Nat×List Value×List Value×τ
abbrev Res(τ:Type):=Option Value×τ
abbrev Codes:=Nat→Nat→Option (Instr×Nat×Option Nat)
abbrev Mop(τ:Type):=Nat→Instr→List Value→τ→Option (List Value×τ)
abbrev Cop:=Nat→Instr→List Value→Option (Nat×List Value×List Value)
def retV(t:Option FieldType)(i:Instr)(st:List Value):Option (Option Value):=match i with
 | .return_=>(match t,st with
  |none,[]=>some none
  |_,_=>none)
 | .ireturn=>(match t,st with
  |some .int,[.int v]=>some (some (.int v))
  |some .boolean,[.int v]=>some (some (.int (v&&&1)))
  |_,_=>none)
 | .lreturn=>(match t,st with
  |some .long,[.long v]=>some (some (.long v))
  |_,_=>none)
 |_=>none
def rest(rt:Option FieldType)(mop:Mop τ)(cop:Cop)(m pn:Nat)(i:Instr)(ls st:List Value)(S:τ):Plan (Cfg τ) (Res τ):=
 match retV rt i st with
 |some v=>some (.inl (v,S))
 |none=>match loc i ls st with
  |some q=>some (.inr (.inl (m,pn,q.1,q.2,S)))
  |none=>match mop m i st S with
   |some q=>some (.inr (.inl (m,pn,ls,q.1,q.2)))
   |none=>match cop m i st with
    |some q=>some (.inr (.inr ((q.1,0,entL q.2.1,[],S),fun r=>(m,pn,ls,r.1.toList++q.2.2,r.2))))
    |none=>none
def pl1(m pn:Nat)(cd:ClassFile.Cond)(t:Nat)(ls:List Value)(S:τ):List Value→Plan (Cfg τ) (Res τ)
 | .int x::st=>some (.inr (.inl (cnd cd x 0 (m,t,ls,st,S) (m,pn,ls,st,S))))
 |_=>none
def pl2(m pn:Nat)(cd:ClassFile.Cond)(t:Nat)(ls:List Value)(S:τ):List Value→Plan (Cfg τ) (Res τ)
 | .int y :: .int x::st=>some (.inr (.inl (cnd cd x y (m,t,ls,st,S) (m,pn,ls,st,S))))
 |_=>none
def pl3(m d:Nat)(lo:Int)(ts:List Int)(ls:List Value)(S:τ):List Value→Plan (Cfg τ) (Res τ)
 | .int x::st=>some (.inr (.inl (swc x lo ts (fun t=>(m,t,ls,st,S)) (m,d,ls,st,S))))
 |_=>none
def plan(code:Codes)(rt:Nat→Option FieldType)(mop:Mop τ)(cop:Cop)(c:Cfg τ):Plan (Cfg τ) (Res τ):=
 match code c.1 c.2.1 with
 |none=>none
 |some q=>match q.1 with
  | .goto t=>some (.inr (.inl (c.1,t.toNat,tk q.2.2 c.2.2.1,c.2.2.2.1,c.2.2.2.2)))
  | .ifCond cd t=>pl1 c.1 q.2.1 cd t.toNat (tk q.2.2 c.2.2.1) c.2.2.2.2 c.2.2.2.1
  | .if_icmp cd t=>pl2 c.1 q.2.1 cd t.toNat (tk q.2.2 c.2.2.1) c.2.2.2.2 c.2.2.2.1
  | .tableswitch d lo _ ts=>pl3 c.1 d.toNat lo ts.toList (tk q.2.2 c.2.2.1) c.2.2.2.2 c.2.2.2.1
  |i=>rest (rt c.1) mop cop c.1 q.2.1 i (tk q.2.2 c.2.2.1) c.2.2.2.1 c.2.2.2.2
theorem cnd_map{β γ:Type}(g:β→γ)(c:ClassFile.Cond)(x y:Int32)(a b:β):g (cnd c x y a b)=cnd c x y (g a) (g b):=by
 cases c<;>simp only[cnd]<;>split<;>rfl
theorem swc_map{β γ:Type}(g:β→γ)(x:Int32)(k:Nat→β)(d:β):∀(ts:List Int) (lo:Int),g (swc x lo ts k d)=swc x lo ts (fun t=>g (k t)) (g d)
 |[],_=>rfl
 |t::ts,lo=>by
  simp only[swc]
  split
  ·rfl
  ·exact swc_map g x k d ts (lo+1)
end Machine
def lk{β:Type}(k:Nat):List (Nat×β)→Option β
 |[]=>none
 |q::r=>if q.1=k then some q.2 else lk k r
theorem lk_mem{β:Type}{k:Nat}{b:β}:∀ {l:List (Nat×β)},lk k l=some b→(k,b)∈l
 |[],h=>by cases h
 |q::r,h=>by
  simp only[lk] at h
  split at h
  ·rename_i e
   cases h
   subst e
   exact List.mem_cons_self ..
  ·exact List.mem_cons_of_mem _ (lk_mem h)
abbrev Tabs:=List (Nat×String×String×Nat)×List (Nat×Nat)×List (Nat×Nat)×List (Nat×Int32)×List (Nat×Int64)×List (Nat×Nat)×List (Nat×Nat)
def absT(pc:Nat)(o:Int):Option Int:=if 0≤(pc:Int)+o then some ((pc:Int)+o) else none
def lt(ml k:Nat)(i:Instr):Option Instr:=if k<ml then some i else none
def plain1:Instr→Bool
 | .lconst _ | .iadd | .isub | .imul | .idiv | .irem | .ineg | .iand | .ior | .ixor | .ishl | .ishr | .iushr | .ladd | .lsub | .lmul | .land | .lor | .lxor | .lshl | .lushr | .lrem | .lcmp | .i2l | .l2i | .i2b | .pop | .dup | .dup2=>true
 |_=>false
def heapy:Instr→Bool
 | .iaload | .iastore | .baload | .bastore | .arraylength | .ireturn | .lreturn | .return_=>true
 |_=>false
def canon(T:Tabs)(ml pc:Nat)(i:Instr):Option Instr:=match i with
 | .iload_n k=>some (.iload k.val)
 | .iload k=>some (.iload k)
 | .aload_n k=>some (.aload k.val)
 | .aload k=>some (.aload k)
 | .lload_n k=>some (.lload k.val)
 | .lload k=>some (.lload k)
 | .istore_n k=>lt ml k.val (.istore k.val)
 | .istore k=>lt ml k (.istore k)
 | .astore_n k=>lt ml k.val (.astore k.val)
 | .astore k=>lt ml k (.astore k)
 | .lstore_n k=>lt ml (k.val+1) (.lstore k.val)
 | .lstore k=>lt ml (k+1) (.lstore k)
 | .iinc k c=>lt ml k (.iinc k c)
 | .iconst i=>some (.iconst i)
 | .bipush i=>some (.iconst (Int8.ofInt i).toInt32.toInt)
 | .sipush i=>some (.iconst (Int16.ofInt i).toInt32.toInt)
 | .ldc k=>(lk k T.2.2.2.1).map fun v => .iconst v.toInt
 | .ldc2_w k=>(lk k T.2.2.2.2.1).map fun v => .ldc2_w v.toUInt64.toNat
 | .goto o=>(absT pc o).map fun t => .goto t
 | .ifCond cd o=>(absT pc o).map fun t => .ifCond cd t
 | .if_icmp cd o=>(absT pc o).map fun t => .if_icmp cd t
 | .tableswitch d lo hi offs=>if (0≤(pc:Int)+d)∧(offs.all fun o=>decide (0≤(pc:Int)+o))=true∧(offs.size:Int)=hi-lo+1 ∧ -2147483648≤lo∧hi<2147483648 then some (.tableswitch (pc+d) lo hi (offs.map fun o=>(pc:Int)+o)) else none
 | .getfield k=>(lk k T.1).map fun q => .getfield q.2.2
 | .putfield k=>(lk k T.1).map fun q => .putfield q.2.2
 | .invokevirtual k=>(lk k T.2.1).map fun q => .invokevirtual q
 | .invokestatic k=>(lk k T.2.2.1).map fun q => .invokestatic q
 | .new k=>(lk k T.2.2.2.2.2.1).map fun q => .new q
 | .invokespecial k=>(lk k T.2.2.2.2.2.2).map fun q => .invokespecial q
 |i=>if plain1 i||heapy i then some i else none
def cv(ρ:Nat→Nat):Value→Value
 | .ref r => .ref (ρ r)
 |v=>v
def LocRel(ρ:Nat→Nat)(ls:List Value)(L:Array Slot):Prop:=∀(i:Nat) (v:Value),ls[i]? = some v→v ≠ .null→L[i]? = some (.val (cv ρ v))
def WFL(L:Array Slot):Prop:=(∀i:Nat,L[i]? = some .second→∃(j:Nat) (v:Value),i=j+1∧L[j]? = some (.val v)∧v.category=2)∧∀(i:Nat) (v:Value),L[i]? = some (.val v)→v.category=2→L[i+1]? = some .second
theorem setL_get(v:Value):∀(ls:List Value) (k i:Nat) (w:Value),(setL ls k v)[i]? = some w→(i=k∧w=v)∨(i≠k∧(w = .null∨ls[i]? = some w))
 |[],0,i,w,h=>by
  cases i with
  |zero=>simp[setL] at h;exact Or.inl ⟨rfl,h.symm⟩
  |succ i=>simp[setL] at h
 |[],k+1,i,w,h=>by
  cases i with
  |zero=>simp[setL] at h;exact Or.inr ⟨by omega,Or.inl h.symm⟩
  |succ i=>
   simp[setL] at h
   rcases setL_get v [] k i w h with⟨a,b⟩ | ⟨a,b⟩
   ·exact Or.inl ⟨by omega,b⟩
   ·exact Or.inr ⟨by omega,b.imp id (fun q=>by simp at q)⟩
 |x::r,0,i,w,h=>by
  cases i with
  |zero=>simp[setL] at h;exact Or.inl ⟨rfl,h.symm⟩
  |succ i=>simp[setL] at h;exact Or.inr ⟨by omega,Or.inr (by simpa using h)⟩
 |x::r,k+1,i,w,h=>by
  cases i with
  |zero=>simp[setL] at h;exact Or.inr ⟨by omega,Or.inr (by simpa using h)⟩
  |succ i=>
   simp[setL] at h
   rcases setL_get v r k i w h with⟨a,b⟩ | ⟨a,b⟩
   ·exact Or.inl ⟨by omega,b⟩
   ·exact Or.inr ⟨by omega,b.imp id (fun q=>by simpa using q)⟩
theorem clrL_get:∀(ls:List Value) (k i:Nat) (w:Value),(clrL ls k)[i]? = some w→w ≠ .null→ls[i]? = some w∧(i=k→w.category=1)
 |[],k,i,w,h,_=>by simp[clrL] at h
 |x::r,0,i,w,h,hn=>by
  cases i with
  |zero=>
   simp[clrL] at h
   cases x<;>simp[nolong] at h<;>subst h<;>first | exact absurd rfl hn | exact⟨rfl,fun _=>rfl⟩
  |succ i=>simp[clrL] at h;exact⟨by simpa using h,fun q=>by omega⟩
 |x::r,k+1,i,w,h,hn=>by
  cases i with
  |zero=>simp[clrL] at h;exact⟨by simpa using h,fun q=>by omega⟩
  |succ i=>
   simp[clrL] at h
   obtain⟨a,b⟩:=clrL_get r k i w h hn
   exact⟨by simpa using a,fun q=>b (by omega)⟩
theorem setAt_in{L:Array Slot}{i:Nat}(h:i<L.size)(x:Slot):setAt L i x=some (L.setIfInBounds i x):=by simp[setAt,h]
theorem get_set_ne{L:Array Slot}{i j:Nat}(h:i≠j)(x:Slot):(L.setIfInBounds i x)[j]? = L[j]? := Array.getElem?_setIfInBounds_ne h
theorem get_set_eq{L:Array Slot}{i:Nat}(h:i<L.size)(x:Slot):(L.setIfInBounds i x)[i]? = some x:=by simp[h]
theorem free_rel {ρ : Nat → Nat} {ls : List Value} {L : Array Slot} {k : Nat} (R : LocRel ρ ls L) (W : WFL L) (hk : k < L.size) :
    ∃ L1 : Array Slot, L1.size = L.size ∧ (∀ w, storeLocals L k w = storeSelf L1 k w) ∧ WFL (L1.setIfInBounds k .unset) ∧ (∀ i, i ≠ k → L1[i]? = L[i]? ∨ L1[i]? = some .unset) ∧
      ∀ (i : Nat) (v : Value), i ≠ k → ls[i]? = some v → v ≠ .null → (i + 1 = k → v.category = 1) → L1[i]? = some (.val (cv ρ v)) := by
  have cvc : ∀ v : Value, (cv ρ v).category = v.category := fun v => by cases v <;> rfl
  obtain ⟨x, hx⟩ : ∃ x, L[k]? = some x := ⟨L[k], by simp [hk]⟩
  cases x with
  | unset =>
    refine ⟨L, rfl, fun w => by simp [storeLocals, hx], ⟨fun i h => ?_, fun i v h hc => ?_⟩, fun i _ => Or.inl rfl, fun i v hi h hn _ => R i v h hn⟩
    · by_cases e : k = i
      · subst e; rw [get_set_eq hk] at h; cases h
      · rw [get_set_ne e] at h
        obtain ⟨j, v, e1, e2, e3⟩ := W.1 i h
        refine ⟨j, v, e1, ?_, e3⟩
        by_cases q : k = j
        · subst q; rw [hx] at e2; cases e2
        · rw [get_set_ne q]; exact e2
    · by_cases e : k = i
      · subst e; rw [get_set_eq hk] at h; cases h
      · rw [get_set_ne e] at h
        have := W.2 i v h hc
        by_cases q : k = i + 1
        · subst q; rw [hx] at this; cases this
        · rw [get_set_ne q]; exact this
  | second =>
    obtain ⟨j, v0, rfl, e2, e3⟩ := W.1 k hx
    have hj : j < L.size := by omega
    refine ⟨L.setIfInBounds j .unset, by simp, fun w => by simp [storeLocals, hx, setAt_in hj], ⟨fun i h => ?_, fun i v h hc => ?_⟩, fun i _ => ?_, fun i v hi h hn hc => ?_⟩
    · by_cases e : j + 1 = i
      · subst e; rw [get_set_eq (by simpa using hk)] at h; cases h
      · rw [get_set_ne e] at h
        by_cases q : j = i
        · subst q; rw [get_set_eq hj] at h; cases h
        · rw [get_set_ne q] at h
          obtain ⟨j', v, f1, f2, f3⟩ := W.1 i h
          refine ⟨j', v, f1, ?_, f3⟩
          have g1 : j + 1 ≠ j' := fun q' => by subst q'; rw [hx] at f2; cases f2
          have g2 : j ≠ j' := fun q' => by subst q'; exact e f1.symm
          rw [get_set_ne g1, get_set_ne g2]; exact f2
    · by_cases e : j + 1 = i
      · subst e; rw [get_set_eq (by simpa using hk)] at h; cases h
      · rw [get_set_ne e] at h
        by_cases q : j = i
        · subst q; rw [get_set_eq hj] at h; cases h
        · rw [get_set_ne q] at h
          have t := W.2 i v h hc
          have g1 : j + 1 ≠ i + 1 := by omega
          have g2 : j ≠ i + 1 := fun q' => by subst q'; rw [e2] at t; cases t
          rw [get_set_ne g1, get_set_ne g2]; exact t
    · by_cases q : j = i
      · subst q; exact Or.inr (get_set_eq hj _)
      · exact Or.inl (get_set_ne q _)
    · by_cases q : j = i
      · subst q
        have := R j v h hn
        rw [e2] at this
        have e4 : v0 = cv ρ v := by simpa using this
        rw [e4, cvc, hc rfl] at e3; cases e3
      · rw [get_set_ne q]; exact R i v h hn
  | val old =>
    by_cases hc2 : old.category = 2
    · have hs := W.2 k old hx hc2
      have hk1 : k + 1 < L.size := (Array.getElem?_eq_some_iff.mp hs).1
      refine ⟨L.setIfInBounds (k + 1) .unset, by simp, fun w => by simp [storeLocals, hx, setAt_in hk1, hc2], ⟨fun i h => ?_, fun i v h hc => ?_⟩, fun i _ => ?_, fun i v hi h hn hc => ?_⟩
      · by_cases e : k = i
        · subst e; rw [get_set_eq (by simpa using hk)] at h; cases h
        · rw [get_set_ne e] at h
          by_cases q : k + 1 = i
          · subst q; rw [get_set_eq hk1] at h; cases h
          · rw [get_set_ne q] at h
            obtain ⟨j', v, f1, f2, f3⟩ := W.1 i h
            refine ⟨j', v, f1, ?_, f3⟩
            have g1 : k ≠ j' := fun q' => by subst q'; exact q f1.symm
            have g2 : k + 1 ≠ j' := fun q' => by subst q'; rw [hs] at f2; cases f2
            rw [get_set_ne g1, get_set_ne g2]; exact f2
      · by_cases e : k = i
        · subst e; rw [get_set_eq (by simpa using hk)] at h; cases h
        · rw [get_set_ne e] at h
          by_cases q : k + 1 = i
          · subst q; rw [get_set_eq hk1] at h; cases h
          · rw [get_set_ne q] at h
            have t := W.2 i v h hc
            have g1 : k ≠ i + 1 := fun q' => by subst q'; rw [hx] at t; cases t
            have g2 : k + 1 ≠ i + 1 := by omega
            rw [get_set_ne g1, get_set_ne g2]; exact t
      · by_cases q : k + 1 = i
        · subst q; exact Or.inr (get_set_eq hk1 _)
        · exact Or.inl (get_set_ne q _)
      · by_cases q : k + 1 = i
        · subst q
          have := R _ v h hn
          rw [hs] at this; cases this
        · rw [get_set_ne q]; exact R i v h hn
    · refine ⟨L, rfl, fun w => by simp [storeLocals, hx, hc2], ⟨fun i h => ?_, fun i v h hc => ?_⟩, fun i _ => Or.inl rfl, fun i v hi h hn _ => R i v h hn⟩
      · by_cases e : k = i
        · subst e; rw [get_set_eq hk] at h; cases h
        · rw [get_set_ne e] at h
          obtain ⟨j, v, e1, e2, e3⟩ := W.1 i h
          refine ⟨j, v, e1, ?_, e3⟩
          by_cases q : k = j
          · subst q; rw [hx] at e2; cases e2; exact absurd e3 hc2
          · rw [get_set_ne q]; exact e2
      · by_cases e : k = i
        · subst e; rw [get_set_eq hk] at h; cases h
        · rw [get_set_ne e] at h
          have := W.2 i v h hc
          by_cases q : k = i + 1
          · subst q; rw [hx] at this; cases this
          · rw [get_set_ne q]; exact this
theorem st1_get{ls:List Value}{k i:Nat}{v w:Value}(h:(st1 ls k v)[i]? = some w)(hn:w ≠ .null):(i=k∧w=v)∨(i≠k∧ls[i]? = some w∧(i+1=k→w.category=1)):=by
 cases k with
 |zero=>
  rcases setL_get v ls 0 i w h with q | ⟨q1,q2 | q2⟩
  ·exact Or.inl q
  ·exact absurd q2 hn
  ·exact Or.inr ⟨q1,q2,fun q=>by omega⟩
 |succ k=>
  rcases setL_get v (clrL ls k) (k+1) i w h with q | ⟨q1,q2 | q2⟩
  ·exact Or.inl q
  ·exact absurd q2 hn
  ·obtain⟨a,b⟩:=clrL_get ls k i w q2 hn
   exact Or.inr ⟨q1,a,fun q=>b (by omega)⟩
theorem store1{ρ:Nat→Nat}{ls:List Value}{L:Array Slot}{k:Nat}{v:Value}(R:LocRel ρ ls L)(W:WFL L)(hk:k<L.size)(hv:v.category=1) :
  ∃L',storeLocals L k (cv ρ v)=some L'∧LocRel ρ (st1 ls k v) L'∧WFL L'∧L'.size=L.size:=by
 have cvc:(cv ρ v).category=1:=by cases v<;>first | rfl | exact hv
 obtain⟨L1,z,hs,wf,hu,hl⟩:=free_rel R W hk
 have hk1:k<L1.size:=by omega
 refine⟨L1.setIfInBounds k (.val (cv ρ v)),by rw[hs];simp[storeSelf,setAt_in hk1,cvc],fun i w h hn=>?_,⟨fun i h=>?_,fun i w h hc=>?_⟩,by simp[z]⟩
 ·rcases st1_get h hn with⟨rfl,rfl⟩ | ⟨a,b,c⟩
  ·exact get_set_eq hk1 _
  ·rw[get_set_ne (Ne.symm a)];exact hl i w a b hn c
 ·by_cases e:k=i
  ·subst e;rw[get_set_eq hk1] at h;cases h
  ·rw[get_set_ne e] at h
   obtain⟨j,w,e1,e2,e3⟩:=wf.1 i (by rw[get_set_ne e];exact h)
   refine⟨j,w,e1,?_,e3⟩
   by_cases q:k=j
   ·subst q;rw[get_set_eq hk1] at e2;cases e2
   ·rw[get_set_ne q] at e2 ⊢;exact e2
 ·by_cases e:k=i
  ·subst e
   rw[get_set_eq hk1] at h
   have:cv ρ v=w:=by simpa using h
   rw[←this,cvc] at hc;cases hc
  ·rw[get_set_ne e] at h
   have t:=wf.2 i w (by rw[get_set_ne e];exact h) hc
   by_cases q:k=i+1
   ·rw[q,get_set_eq (by omega)] at t;cases t
   ·rw[get_set_ne q] at t ⊢;exact t
theorem store2{ρ:Nat→Nat}{ls:List Value}{L:Array Slot}{k:Nat}{x:Int64}(R:LocRel ρ ls L)(W:WFL L)(hk:k+1<L.size) :
  ∃L',storeLocals L k (.long x)=some L'∧LocRel ρ (st2 ls k (.long x)) L'∧WFL L'∧L'.size=L.size:=by
 obtain⟨L1,z,hs,wf,hu,hl⟩:=free_rel R W (by omega:k<L.size)
 have hk0:k<L1.size:=by omega
 have hk1:k+1<L1.size:=by omega
 have hk1':k+1<(L1.setIfInBounds k (.val (.long x))).size:=by simpa using hk1
 have e1:(L1.setIfInBounds k (.val (.long x)))[k+1]? = L1[k+1]? := get_set_ne (by omega) _
 have ns:L1[k+1]? ≠ some .second:=fun q=>by
  obtain⟨j,w,f1,f2,f3⟩:=wf.1 (k+1) (by rw[get_set_ne (by omega)];exact q)
  have:j=k:=by omega
  subst this
  rw[get_set_eq hk0] at f2;cases f2
 have key:∃L2:Array Slot,storeSelf L1 k (.long x)=some (L2.setIfInBounds (k+1) .second)∧L2.size=L.size∧L2[k]? = some (.val (.long x))∧(∀i,i≠k→i≠k+1→i≠k+2→L2[i]? = L1[i]?) ∧
   ((L2[k+2]? = L1[k+2]? ∧ ∀w,L1[k+1]? = some (.val w)→w.category≠2)∨(L2[k+2]? = some .unset∧L1[k+2]? = some .second)):=by
  obtain⟨y,hy⟩:∃y,L1[k+1]? = some y:=⟨L1[k+1],by simp[hk1]⟩
  cases y with
  |second=>exact absurd hy ns
  |unset=>
   refine⟨L1.setIfInBounds k (.val (.long x)),by simp[storeSelf,setAt_in hk0,Value.category,e1,hy,setAt_in hk1'],by simp[z],get_set_eq hk0 _,fun i a b c=>get_set_ne (Ne.symm a) _,Or.inl ⟨get_set_ne (by omega) _,fun w q=>by rw[hy] at q;cases q⟩⟩
  |val old=>
   by_cases hc:old.category=2
   ·have t:=wf.2 (k+1) old (by rw[get_set_ne (by omega)];exact hy) hc
    rw[get_set_ne (by omega)] at t
    have hk2:k+2<L1.size:=(Array.getElem?_eq_some_iff.mp t).1
    refine⟨(L1.setIfInBounds k (.val (.long x))).setIfInBounds (k+2) .unset,?_,by simp[z],by rw[get_set_ne (by omega)];exact get_set_eq hk0 _,fun i a b c=>by rw[get_set_ne (Ne.symm c),get_set_ne (Ne.symm a)],Or.inr ⟨get_set_eq (by simpa using hk2) _,t⟩⟩
    simp[storeSelf,setAt,hk0,show (Value.long x).category=2 from rfl,e1,hc,hk1,hk2]
    rw[(Array.getElem?_eq_some_iff.mp hy).2]
    simp[hc]
   ·refine⟨L1.setIfInBounds k (.val (.long x)),?_,by simp[z],get_set_eq hk0 _,fun i a b c=>get_set_ne (Ne.symm a) _,Or.inl ⟨get_set_ne (by omega) _,fun w q=>by rw[hy] at q;cases q;exact hc⟩⟩
    simp[storeSelf,setAt,hk0,show (Value.long x).category=2 from rfl,e1,hc,hk1]
    rw[(Array.getElem?_eq_some_iff.mp hy).2]
    simp[hc]
 obtain⟨L2,s2,z2,g0,gi,g2⟩:=key
 have hk2:k+1<L2.size:=by omega
 refine⟨L2.setIfInBounds (k+1) .second,by rw[hs];exact s2,fun i w h hn=>?_,⟨fun i h=>?_,fun i w h hc=>?_⟩,by simp[z2]⟩
 ·rcases setL_get .null _ _ _ _ h with⟨a,b⟩ | ⟨a,b | b⟩
  ·exact absurd b hn
  ·exact absurd b hn
  ·rw[get_set_ne (Ne.symm a)]
   rcases st1_get b hn with⟨rfl,rfl⟩ | ⟨a',b',c'⟩
   ·exact g0
   ·have t:=hl i w a' b' hn c'
    by_cases q:i=k+2
    ·subst q
     rcases g2 with⟨q1,-⟩ | ⟨-,q2⟩
     ·rw[q1];exact t
     ·rw[q2] at t;cases t
    ·rw[gi i a' a q];exact t
 ·by_cases e:k+1=i
  ·subst e;exact⟨k,.long x,rfl,by rw[get_set_ne (by omega)];exact g0,rfl⟩
  ·rw[get_set_ne e] at h
   by_cases e0:i=k
   ·subst e0;rw[g0] at h;cases h
   ·have h':L1[i]? = some .second∧∀w,i=k+2→L1[k+1]? = some (.val w)→w.category≠2:=by
     by_cases q:i=k+2
     ·subst q
      rcases g2 with⟨q1,q3⟩ | ⟨q2,-⟩
      ·rw[q1] at h;exact⟨h,fun w _=>q3 w⟩
      ·rw[q2] at h;cases h
     ·rw[gi i e0 (Ne.symm e) q] at h;exact⟨h,fun w q'=>absurd q' q⟩
    obtain⟨j,w,f1,f2,f3⟩:=wf.1 i (by rw[get_set_ne (Ne.symm e0)];exact h'.1)
    have jk:j≠k:=by omega
    rw[get_set_ne (Ne.symm jk)] at f2
    have jk1:j≠k+1:=fun q=>by subst q;exact h'.2 w f1 f2 f3
    refine⟨j,w,f1,?_,f3⟩
    rw[get_set_ne (Ne.symm jk1)]
    by_cases q:j=k+2
    ·subst q
     rcases g2 with⟨q1,-⟩ | ⟨-,q2⟩
     ·rw[q1];exact f2
     ·rw[q2] at f2;cases f2
    ·rw[gi j jk jk1 q];exact f2
 ·by_cases e:k+1=i
  ·subst e;rw[get_set_eq hk2] at h;cases h
  ·rw[get_set_ne e] at h
   by_cases e0:i=k
   ·subst e0;exact get_set_eq hk2 _
   ·have h':L1[i]? = some (.val w):=by
     by_cases q:i=k+2
     ·subst q
      rcases g2 with⟨q1,-⟩ | ⟨q2,-⟩
      ·rw[q1] at h;exact h
      ·rw[q2] at h;cases h
     ·rw[gi i e0 (Ne.symm e) q] at h;exact h
    have t:=wf.2 i w (by rw[get_set_ne (Ne.symm e0)];exact h') hc
    have n1:i+1≠k:=fun q=>by rw[q,get_set_eq hk0] at t;cases t
    rw[get_set_ne (Ne.symm n1)] at t
    have n2:i+1≠k+1:=by omega
    rw[get_set_ne (Ne.symm n2)]
    by_cases q:i+1=k+2
    ·have:i=k+1:=by omega
     exact absurd this.symm e
    ·rw[gi (i+1) n1 n2 q];exact t
theorem ii_inv{g:Int32→Int32→Int32}{st st':List Value}(h:ii g st=some st'):∃x y r,st = .int y :: .int x::r∧st' = .int (g x y)::r:=by
 unfold ii at h;split at h
 ·cases h;exact⟨_,_,_,rfl,rfl⟩
 ·cases h
theorem iz_inv{g:Int32→Int32→Int32}{st st':List Value}(h:iz g st=some st'):∃x y r,y≠0∧st = .int y :: .int x::r∧st' = .int (g x y)::r:=by
 unfold iz at h;split at h
 ·split at h
  ·cases h
  ·rename_i q;cases h;exact⟨_,_,_,q,rfl,rfl⟩
 ·cases h
theorem ll_inv{g:Int64→Int64→Int64}{st st':List Value}(h:ll g st=some st'):∃x y r,st = .long y :: .long x::r∧st' = .long (g x y)::r:=by
 unfold ll at h;split at h
 ·cases h;exact⟨_,_,_,rfl,rfl⟩
 ·cases h
theorem lz_inv{g:Int64→Int64→Int64}{st st':List Value}(h:lz g st=some st'):∃x y r,y≠0∧st = .long y :: .long x::r∧st' = .long (g x y)::r:=by
 unfold lz at h;split at h
 ·split at h
  ·cases h
  ·rename_i q;cases h;exact⟨_,_,_,q,rfl,rfl⟩
 ·cases h
theorem li_inv{g:Int64→Int32→Int64}{st st':List Value}(h:li g st=some st'):∃x y r,st = .int y :: .long x::r∧st' = .long (g x y)::r:=by
 unfold li at h;split at h
 ·cases h;exact⟨_,_,_,rfl,rfl⟩
 ·cases h
theorem lc_inv{g:Int64→Int64→Int32}{st st':List Value}(h:lc g st=some st'):∃x y r,st = .long y :: .long x::r∧st' = .int (g x y)::r:=by
 unfold lc at h;split at h
 ·cases h;exact⟨_,_,_,rfl,rfl⟩
 ·cases h
theorem i1_inv{g:Int32→Value}{st st':List Value}(h:i1 g st=some st'):∃x r,st = .int x::r∧st'=g x::r:=by
 unfold i1 at h;split at h
 ·cases h;exact⟨_,_,rfl,rfl⟩
 ·cases h
theorem l1_inv{g:Int64→Value}{st st':List Value}(h:l1 g st=some st'):∃x r,st = .long x::r∧st'=g x::r:=by
 unfold l1 at h;split at h
 ·cases h;exact⟨_,_,rfl,rfl⟩
 ·cases h
section Sim
variable {p:Program} {l:Launch} {e:Env} {R:Room} {s:State} {m:MethodId} {args:Array Value} {below:List Frame} {meth:Method} {c:Code} {T:State} {locs:List Loc} {cells slots:Nat} {ρ:Nat→Nat}
set_option maxHeartbeats 4000000 in
theorem simAlu(X:Stand p l e R s m args below meth c T locs cells slots)(hx:p.tables.exec=Jvm.exec){pc:Nat}{i0:Instr}(hd:decode c.code pc = .ok (i0,1))(hp:plain1 i0=true){st st':List Value}(ha:alu i0 st=some st'){L:Array Slot}{target:State}
  (k:Steps p.tables e below (T.setTop (mkF m (pc+1) L (st'.map (cv ρ)))) target):Steps p.tables e below (T.setTop (mkF m pc L (st.map (cv ρ)))) target:=by
 cases i0<;>try (simp[plain1] at hp;done)
 case lconst j=>cases ha;exact XT.lconst X.here hx rfl hd k
 case iadd=>obtain⟨x,y,r,rfl,rfl⟩:=ii_inv ha;exact XS.iadd X.here hx rfl hd rfl k
 case isub=>obtain⟨x,y,r,rfl,rfl⟩:=ii_inv ha;exact XS.isub X.here hx rfl hd rfl k
 case imul=>obtain⟨x,y,r,rfl,rfl⟩:=ii_inv ha;exact XS.imul X.here hx rfl hd rfl k
 case idiv=>obtain⟨x,y,r,hy,rfl,rfl⟩:=iz_inv ha;exact XS.idiv X.here hx rfl hd rfl hy k
 case irem=>obtain⟨x,y,r,hy,rfl,rfl⟩:=iz_inv ha;exact iremM X hx rfl hd rfl hy k
 case ineg=>obtain⟨x,r,rfl,rfl⟩:=i1_inv ha;exact XS.ineg X.here hx rfl hd rfl k
 case iand=>obtain⟨x,y,r,rfl,rfl⟩:=ii_inv ha;exact XS.iand X.here hx rfl hd rfl k
 case ior=>obtain⟨x,y,r,rfl,rfl⟩:=ii_inv ha;exact XT.ior X.here hx rfl hd rfl k
 case ixor=>obtain⟨x,y,r,rfl,rfl⟩:=ii_inv ha;exact XT.ixor X.here hx rfl hd rfl k
 case ishl=>obtain⟨x,y,r,rfl,rfl⟩:=ii_inv ha;exact XT.ishl X.here hx rfl hd rfl k
 case ishr=>obtain⟨x,y,r,rfl,rfl⟩:=ii_inv ha;exact XT.ishr X.here hx rfl hd rfl k
 case iushr=>obtain⟨x,y,r,rfl,rfl⟩:=ii_inv ha;exact XT.iushr X.here hx rfl hd rfl k
 case ladd=>obtain⟨x,y,r,rfl,rfl⟩:=ll_inv ha;exact XT.ladd X.here hx rfl hd rfl k
 case lsub=>obtain⟨x,y,r,rfl,rfl⟩:=ll_inv ha;exact XT.lsub X.here hx rfl hd rfl k
 case lmul=>obtain⟨x,y,r,rfl,rfl⟩:=ll_inv ha;exact XT.lmul X.here hx rfl hd rfl k
 case land=>obtain⟨x,y,r,rfl,rfl⟩:=ll_inv ha;exact XT.land X.here hx rfl hd rfl k
 case lor=>obtain⟨x,y,r,rfl,rfl⟩:=ll_inv ha;exact XT.lor X.here hx rfl hd rfl k
 case lxor=>obtain⟨x,y,r,rfl,rfl⟩:=ll_inv ha;exact XT.lxor X.here hx rfl hd rfl k
 case lshl=>obtain⟨x,y,r,rfl,rfl⟩:=li_inv ha;exact XT.lshl X.here hx rfl hd rfl k
 case lushr=>obtain⟨x,y,r,rfl,rfl⟩:=li_inv ha;exact XT.lushr X.here hx rfl hd rfl k
 case lrem=>
  obtain⟨x,y,r,hy,rfl,rfl⟩:=lz_inv ha
  have k':Steps p.tables e below (T.setTop (mkF m (pc+1) L (.long (x-x/y*y)::r.map (cv ρ)))) target:=by rw[lrem_mod];exact k
  exact XT.lrem X.here hx rfl hd rfl hy k'
 case lcmp=>obtain⟨x,y,r,rfl,rfl⟩:=lc_inv ha;exact XT.lcmp X.here hx rfl hd rfl k
 case i2l=>obtain⟨x,r,rfl,rfl⟩:=i1_inv ha;exact XT.i2l X.here hx rfl hd rfl k
 case l2i=>obtain⟨x,r,rfl,rfl⟩:=l1_inv ha;exact XT.l2i X.here hx rfl hd rfl k
 case i2b=>obtain⟨x,r,rfl,rfl⟩:=i1_inv ha;exact XT.i2b X.here hx rfl hd rfl k
 case pop=>
  simp only[alu,pop1] at ha
  split at ha
  ·cases ha;exact XT.pop X.here hx rfl hd rfl rfl k
  ·cases ha;exact XT.pop X.here hx rfl hd rfl rfl k
  ·cases ha
 case dup=>
  simp only[alu,dup1] at ha
  split at ha
  ·cases ha;exact XS.dup X.here hx rfl hd rfl rfl k
  ·cases ha;exact XS.dup X.here hx rfl hd rfl rfl k
  ·cases ha
 case dup2=>
  simp only[alu,dup2'] at ha
  split at ha
  ·cases ha;exact XT.dup2 X.here hx rfl hd rfl rfl rfl k
  ·cases ha;exact XT.dup2 X.here hx rfl hd rfl rfl rfl k
  ·cases ha;exact XT.dup2L X.here hx rfl hd rfl k
  ·cases ha
def ilen:Instr→Nat
 | .iload _ | .aload _ | .lload _ | .istore _ | .astore _ | .lstore _ | .bipush _ | .ldc _=>2
 | .iinc _ _ | .sipush _ | .ldc2_w _ | .goto _ | .ifCond _ _ | .if_icmp _ _ | .getfield _ | .putfield _ | .invokevirtual _ | .invokestatic _ | .invokespecial _ | .new _=>3
 |_=>1
def lenOK(i:Instr)(len:Nat):Bool:=match i with
 | .tableswitch _ _ _ _=>true
 |i=>len==ilen i
theorem lt_inv{ml k:Nat}{i j:Instr}(h:lt ml k i=some j):k<ml∧i=j:=by
 unfold lt at h;split at h
 ·cases h;exact⟨by assumption,rfl⟩
 ·cases h
theorem ldI_inv{ls:List Value}{k:Nat}{v:Value}(h:ldI ls k=some v):∃x,v = .int x∧ls[k]? = some (.int x):=by
 unfold ldI at h;split at h
 ·cases h;exact⟨_,rfl,by assumption⟩
 ·cases h
theorem ldA_inv{ls:List Value}{k:Nat}{v:Value}(h:ldA ls k=some v):∃x,v = .ref x∧ls[k]? = some (.ref x):=by
 unfold ldA at h;split at h
 ·cases h;exact⟨_,rfl,by assumption⟩
 ·cases h
theorem ldL_inv{ls:List Value}{k:Nat}{v:Value}(h:ldL ls k=some v):∃x,v = .long x∧ls[k]? = some (.long x):=by
 unfold ldL at h;split at h
 ·cases h;exact⟨_,rfl,by assumption⟩
 ·cases h
theorem incI_inv{ls:List Value}{k:Nat}{c:Int}{ls':List Value}(h:incI ls k c=some ls'):∃x,ls[k]? = some (.int x)∧ls'=st1 ls k (.int (x+Int32.ofInt c)):=by
 unfold incI at h;split at h
 ·cases h;exact⟨_,by assumption,rfl⟩
 ·cases h
theorem stI_inv{ls st:List Value}{k:Nat}{q:List Value×List Value}(h:stI' ls k st=some q):∃x r,st = .int x::r∧q=(st1 ls k (.int x),r):=by
 unfold stI' at h;split at h
 ·cases h;exact⟨_,_,rfl,rfl⟩
 ·cases h
theorem stA_inv{ls st:List Value}{k:Nat}{q:List Value×List Value}(h:stA' ls k st=some q):∃x r,st = .ref x::r∧q=(st1 ls k (.ref x),r):=by
 unfold stA' at h;split at h
 ·cases h;exact⟨_,_,rfl,rfl⟩
 ·cases h
theorem stL_inv{ls st:List Value}{k:Nat}{q:List Value×List Value}(h:stL' ls k st=some q):∃x r,st = .long x::r∧q=(st2 ls k (.long x),r):=by
 unfold stL' at h;split at h
 ·cases h;exact⟨_,_,rfl,rfl⟩
 ·cases h
end Sim
section Sim
variable {p:Program} {l:Launch} {e:Env} {R:Room} {s:State} {m:MethodId} {args:Array Value} {below:List Frame} {meth:Method} {c:Code} {T:State} {locs:List Loc} {cells slots:Nat} {ρ:Nat→Nat}
def Cst(Tb:Tabs)(Z:State)(a0:Array Value)(own:String):Prop:=(∀k v,(k,v)∈Tb.2.2.2.1→(Cond.constant own k v).before a0 Z=true)∧∀k v,(k,v)∈Tb.2.2.2.2.1→(Cond.constantLong own k v).before a0 Z=true
theorem cst1{Z:State}{a0:Array Value}(hZ:Z.Warmed39 s.vm){own:String}{Tb:Tabs}(hC:Cst Tb Z a0 own){j:Nat}{w:Int32}(hw:lk j Tb.2.2.2.1=some w):(Cond.constant own j w).before args s=true:=by
 have h:=hC.1 _ _ (lk_mem hw)
 exact mvT hZ h
theorem cst2{Z:State}{a0:Array Value}(hZ:Z.Warmed39 s.vm){own:String}{Tb:Tabs}(hC:Cst Tb Z a0 own){j:Nat}{w:Int64}(hw:lk j Tb.2.2.2.2.1=some w):(Cond.constantLong own j w).before args s=true:=by
 have h:=hC.2 _ _ (lk_mem hw)
 exact mvT hZ h
theorem own64(w:Int64):Int64.ofNat w.toUInt64.toNat=w:=by
 apply Int64.toBitVec_inj.mp
 simp
set_option maxHeartbeats 1000000 in
theorem simLoc (X : Stand p l e R s m args below meth c T locs cells slots) (hx : p.tables.exec = Jvm.exec) {Z : State} {a0 : Array Value} (hZ : Z.Warmed39 s.vm) {own : String} (hown : s.vm.findClass own = some m.cls) {Tb : Tabs} (hC : Cst Tb Z a0 own)
    {pc : Nat} {i0 i : Instr} {len : Nat} (hd : decode c.code pc = .ok (i0, len)) (ho : lenOK i0 len = true) {L : Array Slot} (hc : canon Tb L.size pc i0 = some i) {ls st ls' st' : List Value} (hl : loc i ls st = some (ls', st')) (RL : LocRel ρ ls L) (W : WFL L) :
    ∃ L', LocRel ρ ls' L' ∧ WFL L' ∧ L'.size = L.size ∧ ∀ target, Steps p.tables e below (T.setTop (mkF m (pc + len) L' (st'.map (cv ρ)))) target → Steps p.tables e below (T.setTop (mkF m pc L (st.map (cv ρ)))) target := by
  have i32 : ∀ x : Int32, Int32.ofInt x.toInt = x := fun x => Int32.ofInt_toInt x
  cases i0
  case iload_n k =>
    cases hc; obtain rfl : len = 1 := by simpa [lenOK, ilen] using ho
    obtain ⟨v, h1, h2⟩ := Option.map_eq_some_iff.mp hl; cases h2
    obtain ⟨x, rfl, h3⟩ := ldI_inv h1
    exact ⟨L, RL, W, rfl, fun t k' => XS.iloadN X.here hx rfl hd (RL _ _ h3 (by simp)) k'⟩
  case iload k =>
    cases hc; obtain rfl : len = 2 := by simpa [lenOK, ilen] using ho
    obtain ⟨v, h1, h2⟩ := Option.map_eq_some_iff.mp hl; cases h2
    obtain ⟨x, rfl, h3⟩ := ldI_inv h1
    exact ⟨L, RL, W, rfl, fun t k' => XS.iload X.here hx rfl hd (RL _ _ h3 (by simp)) k'⟩
  case aload_n k =>
    cases hc; obtain rfl : len = 1 := by simpa [lenOK, ilen] using ho
    obtain ⟨v, h1, h2⟩ := Option.map_eq_some_iff.mp hl; cases h2
    obtain ⟨x, rfl, h3⟩ := ldA_inv h1
    exact ⟨L, RL, W, rfl, fun t k' => XS.aloadN X.here hx rfl hd (RL _ _ h3 (by simp)) rfl k'⟩
  case aload k =>
    cases hc; obtain rfl : len = 2 := by simpa [lenOK, ilen] using ho
    obtain ⟨v, h1, h2⟩ := Option.map_eq_some_iff.mp hl; cases h2
    obtain ⟨x, rfl, h3⟩ := ldA_inv h1
    exact ⟨L, RL, W, rfl, fun t k' => XS.aload X.here hx rfl hd (RL _ _ h3 (by simp)) rfl k'⟩
  case lload_n k =>
    cases hc; obtain rfl : len = 1 := by simpa [lenOK, ilen] using ho
    obtain ⟨v, h1, h2⟩ := Option.map_eq_some_iff.mp hl; cases h2
    obtain ⟨x, rfl, h3⟩ := ldL_inv h1
    exact ⟨L, RL, W, rfl, fun t k' => XT.lloadN X.here hx rfl hd (RL _ _ h3 (by simp)) k'⟩
  case lload k =>
    cases hc; obtain rfl : len = 2 := by simpa [lenOK, ilen] using ho
    obtain ⟨v, h1, h2⟩ := Option.map_eq_some_iff.mp hl; cases h2
    obtain ⟨x, rfl, h3⟩ := ldL_inv h1
    exact ⟨L, RL, W, rfl, fun t k' => XT.lload X.here hx rfl hd (RL _ _ h3 (by simp)) k'⟩
  case istore_n k =>
    obtain ⟨hk, rfl⟩ := lt_inv hc; obtain rfl : len = 1 := by simpa [lenOK, ilen] using ho
    obtain ⟨x, r, rfl, h2⟩ := stI_inv hl; cases h2
    obtain ⟨L', q1, q2, q3, q4⟩ := store1 (v := .int x) RL W hk rfl
    exact ⟨L', q2, q3, q4, fun t k' => XS.istoreN X.here hx rfl hd rfl q1 k'⟩
  case istore k =>
    obtain ⟨hk, rfl⟩ := lt_inv hc; obtain rfl : len = 2 := by simpa [lenOK, ilen] using ho
    obtain ⟨x, r, rfl, h2⟩ := stI_inv hl; cases h2
    obtain ⟨L', q1, q2, q3, q4⟩ := store1 (v := .int x) RL W hk rfl
    exact ⟨L', q2, q3, q4, fun t k' => XS.istore X.here hx rfl hd rfl q1 k'⟩
  case astore_n k =>
    obtain ⟨hk, rfl⟩ := lt_inv hc; obtain rfl : len = 1 := by simpa [lenOK, ilen] using ho
    obtain ⟨x, r, rfl, h2⟩ := stA_inv hl; cases h2
    obtain ⟨L', q1, q2, q3, q4⟩ := store1 (v := .ref x) RL W hk rfl
    exact ⟨L', q2, q3, q4, fun t k' => XS.astoreN X.here hx rfl hd rfl rfl q1 k'⟩
  case astore k =>
    obtain ⟨hk, rfl⟩ := lt_inv hc; obtain rfl : len = 2 := by simpa [lenOK, ilen] using ho
    obtain ⟨x, r, rfl, h2⟩ := stA_inv hl; cases h2
    obtain ⟨L', q1, q2, q3, q4⟩ := store1 (v := .ref x) RL W hk rfl
    exact ⟨L', q2, q3, q4, fun t k' => XS.astore X.here hx rfl hd rfl rfl q1 k'⟩
  case lstore_n k =>
    obtain ⟨hk, rfl⟩ := lt_inv hc; obtain rfl : len = 1 := by simpa [lenOK, ilen] using ho
    obtain ⟨x, r, rfl, h2⟩ := stL_inv hl; cases h2
    obtain ⟨L', q1, q2, q3, q4⟩ := store2 (x := x) RL W hk
    exact ⟨L', q2, q3, q4, fun t k' => XT.lstoreN X.here hx rfl hd rfl q1 k'⟩
  case lstore k =>
    obtain ⟨hk, rfl⟩ := lt_inv hc; obtain rfl : len = 2 := by simpa [lenOK, ilen] using ho
    obtain ⟨x, r, rfl, h2⟩ := stL_inv hl; cases h2
    obtain ⟨L', q1, q2, q3, q4⟩ := store2 (x := x) RL W hk
    exact ⟨L', q2, q3, q4, fun t k' => XT.lstore X.here hx rfl hd rfl q1 k'⟩
  case iinc k cst =>
    obtain ⟨hk, rfl⟩ := lt_inv hc; obtain rfl : len = 3 := by simpa [lenOK, ilen] using ho
    obtain ⟨v, h1, h2⟩ := Option.map_eq_some_iff.mp hl; cases h2
    obtain ⟨x, h3, rfl⟩ := incI_inv h1
    obtain ⟨L', q1, q2, q3, q4⟩ := store1 (v := .int (x + Int32.ofInt cst)) RL W hk rfl
    exact ⟨L', q2, q3, q4, fun t k' => XS.iinc X.here hx rfl hd (RL _ _ h3 (by simp)) q1 k'⟩
  case iconst j =>
    cases hc; obtain rfl : len = 1 := by simpa [lenOK, ilen] using ho
    simp only [loc, alu, Option.map_some, Option.some.injEq, Prod.mk.injEq] at hl; obtain ⟨rfl, rfl⟩ := hl
    exact ⟨L, RL, W, rfl, fun t k' => XS.iconst X.here hx rfl hd k'⟩
  case bipush j =>
    cases hc; obtain rfl : len = 2 := by simpa [lenOK, ilen] using ho
    simp only [loc, alu, Option.map_some, Option.some.injEq, Prod.mk.injEq] at hl; obtain ⟨rfl, rfl⟩ := hl
    rw [i32]
    exact ⟨L, RL, W, rfl, fun t k' => XS.bipush X.here hx rfl hd k'⟩
  case sipush j =>
    cases hc; obtain rfl : len = 3 := by simpa [lenOK, ilen] using ho
    simp only [loc, alu, Option.map_some, Option.some.injEq, Prod.mk.injEq] at hl; obtain ⟨rfl, rfl⟩ := hl
    rw [i32]
    exact ⟨L, RL, W, rfl, fun t k' => XS.sipush X.here hx rfl hd k'⟩
  case ldc j =>
    obtain ⟨w, hw, hc⟩ := Option.map_eq_some_iff.mp hc; cases hc; obtain rfl : len = 2 := by simpa [lenOK, ilen] using ho
    simp only [loc, alu, Option.map_some, Option.some.injEq, Prod.mk.injEq] at hl; obtain ⟨rfl, rfl⟩ := hl
    rw [i32]
    exact ⟨L, RL, W, rfl, fun t k' => X.ldcInt hx hown (cst1 hZ hC hw) (g := mkF m pc L (st.map (cv ρ))) rfl hd _ k'⟩
  case ldc2_w j =>
    obtain ⟨w, hw, hc⟩ := Option.map_eq_some_iff.mp hc; cases hc; obtain rfl : len = 3 := by simpa [lenOK, ilen] using ho
    simp only [loc, alu, Option.map_some, Option.some.injEq, Prod.mk.injEq] at hl; obtain ⟨rfl, rfl⟩ := hl
    rw [own64]
    exact ⟨L, RL, W, rfl, fun t k' => X.ldc2Long hx hown (cst2 hZ hC hw) (g := mkF m pc L (st.map (cv ρ))) rfl hd _ k'⟩
  case tableswitch d lo hi offs =>
    simp only [canon] at hc
    split at hc
    · cases hc
      simp [loc, alu] at hl
    · cases hc
  all_goals first
    | (simp [canon, plain1, heapy] at hc; done)
    | (simp only [canon, plain1, heapy, Bool.or_false, Bool.or_true, Bool.false_or, if_true, Option.some.injEq] at hc
       subst hc
       simp only [loc] at hl
       obtain ⟨v, h1, h2⟩ := Option.map_eq_some_iff.mp hl
       first
         | (cases h1; done)
         | (simp only [alu] at h1; cases h1; done)
         | (cases h2
            obtain rfl : len = 1 := by simpa [lenOK, ilen] using ho
            exact ⟨L, RL, W, rfl, fun t k' => simAlu X hx hd rfl h1 k'⟩))
    | (simp only [canon] at hc
       first
         | (obtain ⟨w, hw, hc⟩ := Option.map_eq_some_iff.mp hc
            cases hc
            simp [loc, alu] at hl))
end Sim
theorem swc_spec{β:Type}(x:Int32)(k:Nat→β)(d:β):∀(ts:List Int) (lo:Int),-2147483648≤lo→lo+ts.length≤2147483648 →
  (∃t,lo≤x.toInt∧x.toInt<lo+ts.length∧ts[(x.toInt-lo).toNat]? = some t∧swc x lo ts k d=k t.toNat)∨((x.toInt<lo∨lo+ts.length≤x.toInt)∧swc x lo ts k d=d)
 |[],lo,_,_=>Or.inr ⟨by simp;omega,rfl⟩
 |t::ts,lo,h1,h2=>by
  simp only[List.length_cons] at h2
  have e:x=Int32.ofInt lo↔x.toInt=lo:=by
   constructor
   ·intro q;subst q;exact Int32.toInt_ofInt_of_le h1 (by omega)
   ·intro q;rw[←q,Int32.ofInt_toInt]
  simp only[swc]
  by_cases q:x=Int32.ofInt lo
  ·rw[if_pos q]
   have q':=e.mp q
   refine Or.inl ⟨t,by omega,by simp;omega,?_,rfl⟩
   rw[q'];simp
  ·rw[if_neg q]
   have q':x.toInt≠lo:=fun h=>q (e.mpr h)
   rcases swc_spec x k d ts (lo+1) (by omega) (by omega) with⟨t',a,b,c,f⟩ | ⟨a,b⟩
   ·refine Or.inl ⟨t',by omega,by simp;omega,?_,f⟩
    have:(x.toInt-lo).toNat=(x.toInt-(lo+1)).toNat+1:=by omega
    rw[this];simpa using c
   ·refine Or.inr ⟨?_,b⟩
    simp only[List.length_cons]
    omega
section Sim
variable {p:Program} {l:Launch} {e:Env} {R:Room} {s:State} {m:MethodId} {args:Array Value} {below:List Frame} {meth:Method} {c:Code} {T:State} {locs:List Loc} {cells slots:Nat} {ρ:Nat→Nat}
theorem cnd_pick{β:Type}(cd:ClassFile.Cond)(x y:Int32)(a b:β):cnd cd x y a b=if if_icmp.holds cd x y=true then a else b:=by
 cases cd
 ·by_cases h:x=y
  ·simp only[cnd];rw[if_pos h,(teq h).1,if_pos rfl]
  ·simp only[cnd,(feq h).1,h,if_false,Bool.false_eq_true]
 ·by_cases h:x=y
  ·simp only[cnd];rw[if_pos h,(teq h).2,if_neg (by decide)]
  ·simp only[cnd,(feq h).2,h,if_true,if_false]
 ·by_cases h:x<y
  ·simp only[cnd,(tlt h).1,h,if_true]
  ·simp only[cnd,(flt h).1,h,if_false,Bool.false_eq_true]
 ·by_cases h:x<y
  ·simp only[cnd,(tlt h).2.1,h,if_true,if_false,Bool.false_eq_true]
  ·simp only[cnd,(flt h).2.1,h,if_true,if_false]
 ·by_cases h:y<x
  ·simp only[cnd,(tlt h).2.2.1,h,if_true]
  ·simp only[cnd,(flt h).2.2.1,h,if_false,Bool.false_eq_true]
 ·by_cases h:y<x
  ·simp only[cnd,(tlt h).2.2.2,h,if_true,if_false,Bool.false_eq_true]
  ·simp only[cnd,(flt h).2.2.2,h,if_true,if_false]
theorem simGoto(X:Stand p l e R s m args below meth c T locs cells slots)(hx:p.tables.exec=Jvm.exec){Tb:Tabs}{ml pc len:Nat}{i0:Instr}{t:Int}(hd:decode c.code pc = .ok (i0,len))(ho:lenOK i0 len=true)(hc:canon Tb ml pc i0=some (.goto t)){L:Array Slot}{st:List Value}{target:State}
  (k:Steps p.tables e below (T.setTop (mkF m t.toNat L st)) target):Steps p.tables e below (T.setTop (mkF m pc L st)) target:=by
 cases i0<;>try (simp[canon,lt,plain1,heapy] at hc;done)
 case goto o=>
  obtain rfl:len=3:=by simpa [lenOK,ilen] using ho
  simp only[canon,absT] at hc
  split at hc
  ·rename_i q
   simp at hc;subst hc
   exact XS.goto X.here hx rfl rfl hd q rfl k
  ·cases hc
theorem simIf(X:Stand p l e R s m args below meth c T locs cells slots)(hx:p.tables.exec=Jvm.exec){Tb:Tabs}{ml pc len:Nat}{i0:Instr}{t:Int}{cd:ClassFile.Cond}(hd:decode c.code pc = .ok (i0,len))(ho:lenOK i0 len=true)(hc:canon Tb ml pc i0=some (.ifCond cd t)){L:Array Slot}{x:Int32}{st:List Value}{target:State}
  (k:Steps p.tables e below (T.setTop (mkF m (if if_icmp.holds cd x 0=true then t.toNat else pc+len) L st)) target):Steps p.tables e below (T.setTop (mkF m pc L (.int x::st))) target:=by
 cases i0<;>try (simp[canon,lt,plain1,heapy] at hc;done)
 case ifCond cd' o=>
  obtain rfl:len=3:=by simpa [lenOK,ilen] using ho
  simp only[canon,absT] at hc
  split at hc
  ·rename_i q
   simp at hc;obtain⟨rfl,rfl⟩:=hc
   by_cases h:if_icmp.holds cd' x 0=true
   ·rw[if_pos h] at k
    exact XS.ifYes X.here hx rfl rfl hd rfl (by rw[if0];exact h) q rfl k
   ·rw[if_neg h] at k
    exact XS.ifNo X.here hx rfl hd rfl (by rw[if0];simpa using h) k
  ·cases hc
theorem simIcmp(X:Stand p l e R s m args below meth c T locs cells slots)(hx:p.tables.exec=Jvm.exec){Tb:Tabs}{ml pc len:Nat}{i0:Instr}{t:Int}{cd:ClassFile.Cond}(hd:decode c.code pc = .ok (i0,len))(ho:lenOK i0 len=true)(hc:canon Tb ml pc i0=some (.if_icmp cd t)){L:Array Slot}{x y:Int32}{st:List Value}{target:State}
  (k:Steps p.tables e below (T.setTop (mkF m (if if_icmp.holds cd x y=true then t.toNat else pc+len) L st)) target):Steps p.tables e below (T.setTop (mkF m pc L (.int y :: .int x::st))) target:=by
 cases i0<;>try (simp[canon,lt,plain1,heapy] at hc;done)
 case if_icmp cd' o=>
  obtain rfl:len=3:=by simpa [lenOK,ilen] using ho
  simp only[canon,absT] at hc
  split at hc
  ·rename_i q
   simp at hc;obtain⟨rfl,rfl⟩:=hc
   by_cases h:if_icmp.holds cd' x y=true
   ·rw[if_pos h] at k
    exact XS.icmpYes X.here hx rfl rfl hd rfl h q rfl k
   ·rw[if_neg h] at k
    exact XS.icmpNo X.here hx rfl hd rfl (by simpa using h) k
  ·cases hc
theorem simSw(X:Stand p l e R s m args below meth c T locs cells slots)(hx:p.tables.exec=Jvm.exec){Tb:Tabs}{ml pc len:Nat}{i0:Instr}{d lo hi:Int}{ts:Array Int}(hd:decode c.code pc = .ok (i0,len))(hc:canon Tb ml pc i0=some (.tableswitch d lo hi ts)){L:Array Slot}{x:Int32}{st:List Value}{target:State}
  (k:Steps p.tables e below (T.setTop (mkF m (swc x lo ts.toList (fun t=>t) d.toNat) L st)) target):Steps p.tables e below (T.setTop (mkF m pc L (.int x::st))) target:=by
 cases i0<;>try (simp[canon,lt,plain1,heapy] at hc;done)
 case tableswitch d' lo' hi' offs=>
  simp only[canon] at hc
  split at hc
  ·rename_i q
   obtain⟨q1,q2,q3,q4,q5⟩:=q
   simp at hc;obtain⟨rfl,rfl,rfl,rfl⟩:=hc
   have hlen:((offs.map fun o=>(pc:Int)+o).toList.length:Int)=hi'-lo'+1:=by simpa using q3
   rcases swc_spec x (fun t=>t) ((pc:Int)+d').toNat (offs.map fun o=>(pc:Int)+o).toList lo' q4 (by omega) with⟨t,a,b,cc,f⟩ | ⟨a,b⟩
   ·rw[f] at k
    obtain⟨o,o1,o2⟩:∃o,offs[(x.toInt-lo').toNat]? = some o∧(pc:Int)+o=t:=by
     simpa using cc
    have hoff:0≤(pc:Int)+o:=by
     have:=Array.all_eq_true_iff_forall_mem.mp q2 o (Array.mem_of_getElem? o1)
     simpa using this
    exact XS.tswIn X.here hx rfl rfl hd rfl (by omega) o1 hoff (by rw[o2]) k
   ·rw[b] at k
    exact XS.tswOut X.here hx rfl rfl hd rfl (by omega) q1 rfl k
  ·cases hc
theorem retV_ok{t:Option FieldType}{i:Instr}{st:List Value}{v:Option Value}(hv:retV t i st=some v):(t=none→v=none)∧∀ρ',v.map (cv ρ')=v:=by
 unfold retV at hv
 split at hv
 ·split at hv
  ·cases hv;exact⟨fun _=>rfl,fun _=>rfl⟩
  ·cases hv
 ·split at hv
  ·cases hv;exact⟨fun h=>(by cases h),fun _=>rfl⟩
  ·cases hv;exact⟨fun h=>(by cases h),fun _=>rfl⟩
  ·cases hv
 ·split at hv
  ·cases hv;exact⟨fun h=>(by cases h),fun _=>rfl⟩
  ·cases hv
 ·cases hv
theorem simRet(X:Stand p l e R s m args below meth c T locs cells slots)(hx:p.tables.exec=Jvm.exec){Tb:Tabs}{ml pc len:Nat}{i0 i:Instr}(hd:decode c.code pc = .ok (i0,len))(ho:lenOK i0 len=true)(hc:canon Tb ml pc i0=some i){L:Array Slot}{st:List Value}{v:Option Value}
  (hv:retV meth.sig.returnType i st=some v) {fs:List Frame} (hl:∀(f:JFrame) (acts:List Action),f.method=m→f.locked=none→f.entered=[]→(doReturn e (T.setTop f) acts v).1=T.setFrames fs) :
  Steps p.tables e below (T.setTop (mkF m pc L (st.map (cv ρ)))) (T.setFrames fs):=by
 have hr:i = .return_∨i = .ireturn∨i = .lreturn:=by
  unfold retV at hv
  split at hv<;>first | exact Or.inl rfl | exact Or.inr (Or.inl rfl) | exact Or.inr (Or.inr rfl) | cases hv
 have hi:i0=i∧len=1:=by
  rcases hr with rfl | rfl | rfl <;>
   (cases i0<;>first | (simp[canon,lt,plain1,heapy] at hc;done) | exact⟨rfl,by simpa [lenOK,ilen] using ho⟩)
 obtain⟨rfl,rfl⟩:=hi
 rcases hr with rfl | rfl | rfl
 ·simp only[retV] at hv
  split at hv
  ·rename_i h1
   cases hv
   exact X.returnOut hx h1 hd hl
  ·cases hv
 ·simp only[retV] at hv
  split at hv
  ·rename_i h1
   cases hv
   exact retOut X hx h1 rfl (Or.inl ⟨rfl,Or.inl rfl,_,rfl⟩) hd hl
  ·rename_i h1
   cases hv
   exact retN X hx (t:= .boolean) h1 (Or.inl rfl) hd hl
  ·cases hv
 ·simp only[retV] at hv
  split at hv
  ·rename_i h1
   cases hv
   exact retOut X hx h1 rfl (Or.inr (Or.inl ⟨rfl,rfl,_,rfl⟩)) hd hl
  ·cases hv
end Sim
def Go(p:Program)(e:Env)(below:List Frame)(T:State)(g:JFrame)(T':State)(g':JFrame):Prop:=∀target,Steps p.tables e below (T'.setTop g') target→Steps p.tables e below (T.setTop g) target
abbrev MI:=Nat→MethodName×ByteArray×Nat×Nat×Nat
def Frm(mi:MI)(rt:Nat→Option FieldType)(own:String)(Z:State)(mm:Nat)(p:Program)(R:Room)(s:State)(m:MethodId)(meth:Method)(c:Code):Prop:=
 p.tables.exec=Jvm.exec∧Z.Warmed39 s.vm∧s.vm.findClass own=some m.cls∧c.code=(mi mm).2.1∧c.maxLocals=(mi mm).2.2.1∧meth.sig.returnType=rt mm∧meth.name=(mi mm).1.name∧(mi mm).2.2.2.1≤R.frames∧(mi mm).2.2.2.2≤R.locals
def chkE(Tb:Tabs)(bytes:ByteArray)(ml:Nat)(q:Nat×Instr×Nat×Option Nat):Bool:=match decode bytes q.1 with
 | .ok (i0,len)=>decide (canon Tb ml q.1 i0=some q.2.1)&&decide (q.2.2.1=q.1+len)&&lenOK i0 len
 |_=>false
def Good(Tb:Tabs)(mi:MI)(code:Codes):Prop:=∀mm pc q,code mm pc=some q→chkE Tb (mi mm).2.1 (mi mm).2.2.1 (pc,q)=true
theorem chkE_spec{Tb:Tabs}{bytes:ByteArray}{ml pc pn:Nat}{i:Instr}{kp:Option Nat}(h:chkE Tb bytes ml (pc,i,pn,kp)=true):∃i0 len,decode bytes pc = .ok (i0,len)∧canon Tb ml pc i0=some i∧pn=pc+len∧lenOK i0 len=true:=by
 simp only[chkE] at h
 split at h
 ·rename_i i0 len hd
  simp only[Bool.and_eq_true,decide_eq_true_eq] at h
  exact⟨i0,len,hd,h.1.1,h.1.2,h.2⟩
 ·cases h
section Walk
variable {τ ι:Type} (code:Codes) (rt:Nat→Option FieldType) (mop:Mop τ) (cop:Cop) (Tb:Tabs) (mi:MI) (own:String) (Z:State) (l:Launch) (ρ:ι→Nat→Nat) (J:ι→Room→State→Nat→τ→State→List Loc→Nat→Nat→Prop)
def Walks (n : Nat) : Prop := ∀ (x : ι) (p : Program) (e : Env) (R : Room) (s : State) (m : MethodId) (args : Array Value) (below : List Frame) (meth : Method) (c : Code) (mm pc : Nat) (ls st : List Value) (S : τ) (r : Res τ),
  iter (plan code rt mop cop) n (mm, pc, ls, st, S) = some r → ∀ (T : State) (locs : List Loc) (cells slots : Nat) (L : Array Slot), Stand p l e R s m args below meth c T locs cells slots → Frm mi rt own Z mm p R s m meth c → J x R s mm S T locs cells slots → LocRel (ρ x) ls L → WFL L → L.size = c.maxLocals →
  ∃ (T' : State) (locs' : List Loc) (cells' slots' : Nat), Stand p l e R s m args below meth c T' locs' cells' slots' ∧ J x R s mm r.2 T' locs' cells' slots' ∧ ((meth.sig.returnType = none → r.1 = none) ∧ ∀ ρ', r.1.map (cv ρ') = r.1) ∧
    ∀ fs, (∀ (f : JFrame) (acts : List Action), f.method = m → f.locked = none → f.entered = [] → (doReturn e (T'.setTop f) acts r.1).1 = T'.setFrames fs) → Steps p.tables e below (T.setTop (mkF m pc L (st.map (cv (ρ x))))) (T'.setFrames fs)
def MopOK:Prop:=∀(x:ι) (p:Program) (e:Env) (R:Room) (s:State) (m:MethodId) (args:Array Value) (below:List Frame) (meth:Method) (c:Code) (mm pc len:Nat) (i0 i:Instr) (st st':List Value) (S S':τ) (T:State) (locs:List Loc) (cells slots:Nat) (L:Array Slot),
 Stand p l e R s m args below meth c T locs cells slots→Frm mi rt own Z mm p R s m meth c→J x R s mm S T locs cells slots→L.size=c.maxLocals→decode c.code pc = .ok (i0,len)→lenOK i0 len=true→canon Tb c.maxLocals pc i0=some i→(∃kp,code mm pc=some (i,pc+len,kp))→mop mm i st S=some (st',S') →
 ∃(T':State) (locs':List Loc) (cells' slots':Nat),Stand p l e R s m args below meth c T' locs' cells' slots'∧J x R s mm S' T' locs' cells' slots'∧Go p e below T (mkF m pc L (st.map (cv (ρ x)))) T' (mkF m (pc+len) L (st'.map (cv (ρ x))))
def CopOK:Prop:=∀n,Walks code rt mop cop mi own Z l ρ J n→∀(x:ι) (p:Program) (e:Env) (R:Room) (s:State) (m:MethodId) (args:Array Value) (below:List Frame) (meth:Method) (c:Code) (mm pc len:Nat) (i0 i:Instr) (st:List Value) (q:Nat×List Value×List Value) (S:τ) (r:Res τ) (T:State) (locs:List Loc) (cells slots:Nat) (L:Array Slot),
 Stand p l e R s m args below meth c T locs cells slots→Frm mi rt own Z mm p R s m meth c→J x R s mm S T locs cells slots→L.size=c.maxLocals→decode c.code pc = .ok (i0,len)→lenOK i0 len=true→canon Tb c.maxLocals pc i0=some i→(∃kp,code mm pc=some (i,pc+len,kp))→cop mm i st=some q→iter (plan code rt mop cop) n (q.1,0,entL q.2.1,[],S)=some r →
 ∃(T':State) (locs':List Loc) (cells' slots':Nat),Stand p l e R s m args below meth c T' locs' cells' slots'∧J x R s mm r.2 T' locs' cells' slots'∧Go p e below T (mkF m pc L (st.map (cv (ρ x)))) T' (mkF m (pc+len) L ((r.1.toList++q.2.2).map (cv (ρ x))))
theorem tk_rel{ρ:Nat→Nat}{ls:List Value}{L:Array Slot}(kp:Option Nat)(h:LocRel ρ ls L):LocRel ρ (tk kp ls) L:=by
 cases kp with
 |none=>exact h
 |some k=>
  intro i v q hn
  simp only[tk,List.getElem?_take] at q
  split at q
  ·exact h i v q hn
  ·cases q
set_option maxHeartbeats 1000000 in
theorem walks{a0:Array Value}(hC:Cst Tb Z a0 own)(hG:Good Tb mi code)(hM:MopOK code rt mop Tb mi own Z l ρ J)(hP:CopOK code rt mop cop Tb mi own Z l ρ J):∀n,Walks code rt mop cop mi own Z l ρ J n:=by
 intro n
 induction n with
 |zero=>intro x p e R s m args below meth c mm pc ls st S r h;cases h
 |succ n ih=>
  intro x p e R s m args below meth c mm pc ls st S r h T locs cells slots L X F hJ RL W hs
  have hx:=F.1
  simp only[iter,run] at h
  cases hq:code mm pc with
  |none=>simp only[plan,hq] at h;cases h
  |some q=>
   obtain⟨i,pn,kp⟩:=q
   obtain⟨i0,len,hd,hc,rfl,ho⟩:=chkE_spec (hG mm pc _ hq)
   have RL':=tk_rel kp RL
   rw[←F.2.2.2.1] at hd
   rw[←F.2.2.2.2.1] at hc
   simp only[plan,hq] at h
   split at h
   ·cases h
   ·-- a return
    rename_i r' hpl
    split at hpl
    ·cases hpl
    ·simp only[pl1] at hpl;split at hpl<;>cases hpl
    ·simp only[pl2] at hpl;split at hpl<;>cases hpl
    ·simp only[pl3] at hpl;split at hpl<;>cases hpl
    ·simp only[rest] at hpl
     split at hpl
     ·rename_i v hv
      cases hpl;cases h
      rw[←F.2.2.2.2.2.1] at hv
      exact⟨T,locs,cells,slots,X,hJ,retV_ok hv,fun fs hl=>simRet X hx hd ho hc hv hl⟩
     ·split at hpl
      ·cases hpl
      ·split at hpl
       ·cases hpl
       ·split at hpl<;>cases hpl
   ·-- the next step
    rename_i c' hpl
    split at hpl
    ·cases hpl
     obtain⟨T',L',k',n',X',hJ',ok',st'⟩:=ih x p e R s m args below meth c _ _ _ _ _ _ h T locs cells slots L X F hJ RL' W hs
     exact⟨T',L',k',n',X',hJ',ok',fun fs hl=>simGoto X hx hd ho hc (st' fs hl)⟩
    ·rename_i cd t
     simp only[pl1] at hpl
     split at hpl
     ·rename_i y r0
      cases hpl
      rw[cnd_pick] at h
      have h':iter (plan code rt mop cop) n (mm,(if if_icmp.holds cd y 0=true then t.toNat else pc+len),tk kp ls,r0,S)=some r:=by
       by_cases q:if_icmp.holds cd y 0=true
       ·rw[if_pos q] at h ⊢;exact h
       ·rw[if_neg q] at h ⊢;exact h
      obtain⟨T',L',k',n',X',hJ',ok',st'⟩:=ih x p e R s m args below meth c _ _ _ _ _ _ h' T locs cells slots L X F hJ RL' W hs
      exact⟨T',L',k',n',X',hJ',ok',fun fs hl=>simIf X hx hd ho hc (st' fs hl)⟩
     ·cases hpl
    ·rename_i cd t
     simp only[pl2] at hpl
     split at hpl
     ·rename_i y y' r0
      cases hpl
      rw[cnd_pick] at h
      have h':iter (plan code rt mop cop) n (mm,(if if_icmp.holds cd y' y=true then t.toNat else pc+len),tk kp ls,r0,S)=some r:=by
       by_cases q:if_icmp.holds cd y' y=true
       ·rw[if_pos q] at h ⊢;exact h
       ·rw[if_neg q] at h ⊢;exact h
      obtain⟨T',L',k',n',X',hJ',ok',st'⟩:=ih x p e R s m args below meth c _ _ _ _ _ _ h' T locs cells slots L X F hJ RL' W hs
      exact⟨T',L',k',n',X',hJ',ok',fun fs hl=>simIcmp X hx hd ho hc (st' fs hl)⟩
     ·cases hpl
    ·rename_i d lo hi ts
     simp only[pl3] at hpl
     split at hpl
     ·rename_i y r0
      cases hpl
      have h':iter (plan code rt mop cop) n (mm,swc y lo ts.toList (fun t=>t) d.toNat,tk kp ls,r0,S)=some r:=by
       rw[←h,swc_map (fun t=>(mm,t,tk kp ls,r0,S))]
      obtain⟨T',L',k',n',X',hJ',ok',st'⟩:=ih x p e R s m args below meth c _ _ _ _ _ _ h' T locs cells slots L X F hJ RL' W hs
      exact⟨T',L',k',n',X',hJ',ok',fun fs hl=>simSw X hx hd hc (st' fs hl)⟩
     ·cases hpl
    ·simp only[rest] at hpl
     split at hpl
     ·cases hpl
     ·split at hpl
      ·rename_i q hq'
       cases hpl
       obtain⟨L1,RL1,W1,z1,st1⟩:=simLoc X hx F.2.1 F.2.2.1 hC hd ho (by rw[hs];exact hc) hq' RL' W
       obtain⟨T',L',k',n',X',hJ',ok',st'⟩:=ih x p e R s m args below meth c _ _ _ _ _ _ h T locs cells slots L1 X F hJ RL1 W1 (z1.trans hs)
       exact⟨T',L',k',n',X',hJ',ok',fun fs hl=>st1 _ (st' fs hl)⟩
      ·split at hpl
       ·rename_i q hq'
        cases hpl
        obtain⟨T1,o1,k1,n1,X1,J1,G1⟩:=hM x p e R s m args below meth c mm pc len i0 _ st q.1 S q.2 T locs cells slots L X F hJ hs hd ho hc ⟨kp,hq⟩ hq'
        obtain⟨T',L',k',n',X',hJ',ok',st'⟩:=ih x p e R s m args below meth c _ _ _ _ _ _ h T1 o1 k1 n1 L X1 F J1 RL' W hs
        exact⟨T',L',k',n',X',hJ',ok',fun fs hl=>G1 _ (st' fs hl)⟩
       ·split at hpl<;>cases hpl
   ·-- a call
    rename_i q hpl
    split at hpl
    ·cases hpl
    ·simp only[pl1] at hpl;split at hpl<;>cases hpl
    ·simp only[pl2] at hpl;split at hpl<;>cases hpl
    ·simp only[pl3] at hpl;split at hpl<;>cases hpl
    ·simp only[rest] at hpl
     split at hpl
     ·cases hpl
     ·split at hpl
      ·cases hpl
      ·split at hpl
       ·cases hpl
       ·split at hpl
        ·rename_i q' hq'
         cases hpl
         obtain⟨r1,h1,h2⟩:=Option.bind_eq_some_iff.mp h
         obtain⟨T1,o1,k1,n1,X1,J1,G1⟩:=hP n ih x p e R s m args below meth c mm pc len i0 _ st q' S r1 T locs cells slots L X F hJ hs hd ho hc ⟨kp,hq⟩ hq' h1
         obtain⟨T',L',k',n',X',hJ',ok',st'⟩:=ih x p e R s m args below meth c _ _ _ _ _ _ h2 T1 o1 k1 n1 L X1 F J1 RL' W hs
         exact⟨T',L',k',n',X',hJ',ok',fun fs hl=>G1 _ (st' fs hl)⟩
        ·cases hpl
end Walk
section Call
variable {p:Program} {l:Launch} {e:Env} {R:Room} {s:State} {m:MethodId} {args:Array Value} {below:List Frame} {meth:Method} {c:Code} {T:State} {locs:List Loc} {cells slots:Nat} {Z:State} {a0:Array Value} {h:Heap}
def VirtW(Z:State)(a0:Array Value)(C own:String)(idx:Nat)(y:MethodName)(bytes:ByteArray)(ml:Nat)(ret:Option FieldType):Prop:=
 y.cls=C∧(Cond.methodLink own idx y).before a0 Z=true∧(Cond.instanceMethod y).before a0 Z=true∧(Cond.code y bytes ml ret).before a0 Z=true ∧
 ((Cond.privateMethod y).before a0 Z=true∨((Cond.declares y).before a0 Z=true∧(Cond.selects C y y).before a0 Z=true))
theorem callV(X:Stand p l e R s m args below meth c T locs cells slots)(hx:p.tables.exec=Jvm.exec)(hZ:Z.Warmed39 s.vm){own C:String}(hown:s.vm.findClass own=some m.cls){idx kk:Nat}{y:MethodName}{bytes:ByteArray}{ml:Nat}{ret:Option FieldType}
  (hw:VirtW Z a0 C own idx y bytes ml ret) (wi:(Cond.instantiable C kk).before a0 Z=true) (wz:(Cond.initialized C).before a0 Z=true) (hC:C ≠ "java/lang/invoke/MethodHandle" ∧ C ≠ "java/lang/invoke/VarHandle")
  {ps:List FieldType} (hd:parseMethodDescriptor y.desc=some ⟨ps,ret⟩) {rm:Room} {as':List Value} (hl:as'.length=ps.length) {a:Nat} {Q:Option Value→Heap→List Loc→Prop}
  (hM:MetFree l y (head1 [Cond.code y bytes ml ret] rm) (fun A U=>A=(.ref a::as').toArray∧Z.Warmed39 U.vm∧U.heap=h) (fun _ _ _ _ _=>True) (fun _ U o U'=>∃v L,o = .returned v∧Q v U'.heap L∧FrameEnd U o U' L rm.cells rm.slots))
  (eT:T.heap=h) (E:Exa Z h a C) {W:Nat} (hf:rm.frames+1≤R.frames) (hlo:W+(ml+11)+rm.locals≤R.locals) (hce:cells+rm.cells≤R.cells) (hsl:slots+rm.slots≤R.slots)
  {pc:Nat} {L:Array Slot} (hs:L.size=c.maxLocals) {rest st:List Value} (hst:st=as'.reverse ++ .ref a::rest) (hW:(rest.map fun v=>v.category).sum≤W) (hdg:decode c.code pc = .ok (.invokevirtual idx,3)) :
  ∃(v:Option Value) (T':State) (Lc:List Loc),Stand p l e R s m args below meth c T' (locs++Lc) (cells+rm.cells) (slots+rm.slots)∧Q v T'.heap Lc∧Go p e below T (mkF m pc L st) T' (mkF m (pc+3) L (v.toList++rest)):=by
 obtain⟨rfl,w1,w2,w3,w4⟩:=hw
 have hB:=backOf (W:=W) hM hZ w3 wz hf hlo (R:=R) (p:=p) (e:=e) (below:=below) (s:=s) (args:=args) (len:=3)
 have hW':2*(mkF m pc L st).monitorRoom+(rest.map fun v=>v.category).sum≤W:=by
  show 2*0+_≤W
  omega
 rcases w4 with w4 | ⟨w4,w5⟩
 ·obtain⟨cl,kc,q1,q2,-,q4,-⟩:=Cond.instantiable_spec (mvT hZ wi (args:=args))
  have hni:kc.isInterface=false:=by
   have:=q4
   simp only[Bool.or_eq_false_iff] at this
   exact this.1
  have hpr:s.PrivateAt y:=Cond.privateMethod_at (mvP hZ w4 (args:=args))
  obtain⟨cell,q5,q6⟩:=E.cell
  obtain⟨v,vm₁,⟨T',L',c',s'⟩,-,X',⟨Lc,hQ,l1,l2,l3⟩,st'⟩:=X.privateBack hx (y:=y) hown (mvT hZ w1) (mvT hZ w2) (selects_self_of_private q1 q2 hni hpr (mvT hZ w2) hC) hpr (mvT hZ w3) hC hB (g:=mkF m pc L st) rfl hs (Steps.refl _) (a:=a) (by rw[eT];exact q5) q6 (argsL:=as') (rest:=rest) (lenOf hd hl) hst hW' hdg
   (fun vm _=>⟨rfl,eT,hce,hsl⟩)
  dsimp only [Pt.U,Pt.locs,Pt.cells,Pt.slots] at X' l1 l2 l3 st' hQ
  subst l1 l2 l3
  exact⟨v,T',Lc,X',hQ,fun t k=>st'.trans k⟩
 ·obtain⟨cq,kq,qa,qb,qc⟩:=isOf hZ eT E
  obtain⟨v,vm₁,⟨T',L',c',s'⟩,-,X',⟨Lc,hQ,l1,l2,l3⟩,st'⟩:=X.virtualBack hx (y:=y) (z:=y) hown (mvT hZ w1) (mvT hZ w4) (notFace_of_selects (args := #[]) (mvT hZ w5)) (mvT hZ w5) (mvT hZ w2) hC hB qa qc (g:=mkF m pc L st) rfl hs (Steps.refl _) (argsL:=as') (rest:=rest) (lenOf hd hl) hst hW' hdg
   (fun vm _=>⟨rfl,eT,hce,hsl⟩)
  dsimp only [Pt.U,Pt.locs,Pt.cells,Pt.slots] at X' l1 l2 l3 st' hQ
  subst l1 l2 l3
  exact⟨v,T',Lc,X',hQ,fun t k=>st'.trans k⟩
end Call
def slotsOf:List Value→List Slot
 |[]=>[]
 |v::r=>if v.category=2 then .val v :: .second::slotsOf r else .val v::slotsOf r
theorem args_slots(vs:List Value)(ml:Nat):argsToLocals vs.toArray ml=((slotsOf vs)++List.replicate (ml-(slotsOf vs).length) Slot.unset).toArray:=by
 have key:∀(vs:List Value) (acc:Array Slot),vs.foldl (fun (acc:Array Slot) v=>if v.category=2 then (acc.push (.val v)).push .second else acc.push (.val v)) acc=acc++(slotsOf vs).toArray:=by
  intro vs
  induction vs with
  |nil=>intro acc;simp[slotsOf]
  |cons v r ih=>
   intro acc
   simp only[List.foldl_cons,slotsOf]
   rw[ih]
   split
   ·apply Array.toList_inj.mp;simp
   ·apply Array.toList_inj.mp;simp
 unfold argsToLocals
 have e:Array.foldl (fun (acc:Array Slot) (v:Value)=>if v.category=2 then (acc.push (.val v)).push .second else acc.push (.val v)) #[] vs.toArray=(slotsOf vs).toArray:=by
  rw[List.foldl_toArray,key];simp
 simp only[e]
 apply Array.toList_inj.mp
 simp
theorem slotsOf_len(ρ:Nat→Nat):∀vs:List Value,(∀v∈vs,(∃x,v = .int x)∨(∃x,v = .long x)∨∃x,v = .ref x)→(slotsOf (vs.map (cv ρ))).length=(entL vs).length
 |[],_=>rfl
 |v::r,h=>by
  have ih:=slotsOf_len ρ r (fun w hw=>h w (List.mem_cons_of_mem _ hw))
  rcases h v (List.mem_cons_self ..) with⟨x,rfl⟩ | ⟨x,rfl⟩ | ⟨x,rfl⟩<;>simp[slotsOf,entL,cv,Value.category,ih]
theorem entL_rel(ρ:Nat→Nat):∀vs:List Value,(∀v∈vs,(∃x,v = .int x)∨(∃x,v = .long x)∨∃x,v = .ref x)→∀(i:Nat) (w:Value),(entL vs)[i]? = some w→w ≠ .null→(slotsOf (vs.map (cv ρ)))[i]? = some (.val (cv ρ w))
 |[],_,i,w,h,_=>by simp[entL] at h
 |v::r,h,i,w,hi,hn=>by
  have ih:=entL_rel ρ r (fun w hw=>h w (List.mem_cons_of_mem _ hw))
  rcases h v (List.mem_cons_self ..) with⟨x,rfl⟩ | ⟨x,rfl⟩ | ⟨x,rfl⟩
  ·cases i with
   |zero=>simp[entL] at hi;subst hi;simp[slotsOf,cv,Value.category]
   |succ i=>simp[entL] at hi;simpa [slotsOf,cv,Value.category] using ih i w hi hn
  ·cases i with
   |zero=>simp[entL] at hi;subst hi;simp[slotsOf,cv,Value.category]
   |succ i=>
    cases i with
    |zero=>simp[entL] at hi;exact absurd hi.symm hn
    |succ i=>simp[entL] at hi;simpa [slotsOf,cv,Value.category] using ih i w hi hn
  ·cases i with
   |zero=>simp[entL] at hi;subst hi;simp[slotsOf,cv,Value.category]
   |succ i=>simp[entL] at hi;simpa [slotsOf,cv,Value.category] using ih i w hi hn
theorem slotsOf_wf:∀(vs:List Value) (tl:List Slot),(∀x∈tl,x = .unset)→(∀i:Nat,(slotsOf vs++tl)[i]? = some .second→∃(j:Nat) (v:Value),i=j+1∧(slotsOf vs++tl)[j]? = some (.val v)∧v.category=2)∧∀(i:Nat) (v:Value),(slotsOf vs++tl)[i]? = some (.val v)→v.category=2→(slotsOf vs++tl)[i+1]? = some .second
 |[],tl,h=>by
  refine⟨fun i q=>?_,fun i v q _=>?_⟩
  ·have:=h _ (List.mem_of_getElem? (by simpa [slotsOf] using q));cases this
  ·have:=h _ (List.mem_of_getElem? (by simpa [slotsOf] using q));cases this
 |v::r,tl,h=>by
  obtain⟨a,b⟩:=slotsOf_wf r tl h
  by_cases hc:v.category=2
  ·refine⟨fun i q=>?_,fun i w q hw=>?_⟩
   ·cases i with
    |zero=>simp[slotsOf,hc] at q
    |succ i=>
     cases i with
     |zero=>exact⟨0,v,rfl,by simp[slotsOf,hc],hc⟩
     |succ i=>
      simp only[slotsOf,hc,if_true,List.cons_append,List.getElem?_cons_succ] at q
      obtain⟨j,w,q1,q2,q3⟩:=a i q
      exact⟨j+2,w,by omega,by simpa [slotsOf,hc] using q2,q3⟩
   ·cases i with
    |zero=>simp[slotsOf,hc]
    |succ i=>
     cases i with
     |zero=>simp[slotsOf,hc] at q
     |succ i=>
      simp only[slotsOf,hc,if_true,List.cons_append,List.getElem?_cons_succ] at q ⊢
      exact b i w q hw
  ·refine⟨fun i q=>?_,fun i w q hw=>?_⟩
   ·cases i with
    |zero=>simp[slotsOf,hc] at q
    |succ i=>
     simp only[slotsOf,hc,if_false,List.cons_append,List.getElem?_cons_succ] at q
     obtain⟨j,w,q1,q2,q3⟩:=a i q
     exact⟨j+1,w,by omega,by simpa [slotsOf,hc] using q2,q3⟩
   ·cases i with
    |zero=>simp[slotsOf,hc] at q;subst q;exact absurd hw hc
    |succ i=>
     simp only[slotsOf,hc,if_false,List.cons_append,List.getElem?_cons_succ] at q ⊢
     exact b i w q hw
def okv:List Value→Bool
 |[]=>true
 | .int _::r=>okv r
 | .long _::r=>okv r
 | .ref _::r=>okv r
 |_::_=>false
theorem okv_spec:∀ {vs:List Value},okv vs=true→∀v∈vs,(∃x,v = .int x)∨(∃x,v = .long x)∨∃x,v = .ref x
 |[],_,v,h=>by cases h
 |w::r,h,v,hv=>by
  cases w<;>simp only[okv] at h<;>try (cases h;done)
  all_goals
   rcases List.mem_cons.mp hv with rfl | q
   ·first | exact Or.inl ⟨_,rfl⟩ | exact Or.inr (Or.inl ⟨_,rfl⟩) | exact Or.inr (Or.inr ⟨_,rfl⟩)
   ·exact okv_spec h v q
theorem entry_rel(ρ:Nat→Nat){vs:List Value}(h:okv vs=true){ml:Nat}(hl:(entL vs).length≤ml) :
  ∃L,(∀m,entryFrame m (vs.map (cv ρ)).toArray ml=mkF m 0 L [])∧LocRel ρ (entL vs) L∧WFL L∧L.size=ml:=by
 have hk:=okv_spec h
 have e1:=slotsOf_len ρ vs hk
 refine⟨_,fun m=>by unfold entryFrame;rw[args_slots],fun i w q hn=>?_,?_,by simp[e1];omega⟩
 ·have:=entL_rel ρ vs hk i w q hn
  simp only[List.getElem?_toArray]
  rw[List.getElem?_append_left ((List.getElem?_eq_some_iff.mp this).1)]
  exact this
 ·obtain⟨a,b⟩:=slotsOf_wf (vs.map (cv ρ)) (List.replicate (ml-(slotsOf (vs.map (cv ρ))).length) Slot.unset) (fun x hx=>(List.mem_replicate.mp hx).2)
  exact⟨fun i q=>by simpa using a i (by simpa using q),fun i v q hc=>by simpa using b i v (by simpa using q) hc⟩
def inb(i:Int32)(n:Nat):Bool := !(decide (i<0)||decide (n≤i.toNatClampNeg))
theorem inb_spec{i:Int32}{n:Nat}(h:inb i n=true):¬(i<0∨n≤i.toNatClampNeg):=by
 simp only[inb,Bool.not_eq_true',Bool.or_eq_false_iff,decide_eq_false_iff_not] at h
 exact fun q=>q.elim h.1 h.2
section Ops
variable {σ:Type}
def gf(G:σ→Nat→Nat→Int32)(k:Nat)(S:σ):List Value→Option (List Value×σ)
 | .ref 0::r=>if k%3=2 then some (.ref (k/3+1)::r,S) else some (.int (G S 0 (k/3))::r,S)
 |_=>none
def pf(P:σ→Nat→Nat→Int32→σ)(k:Nat)(S:σ):List Value→Option (List Value×σ)
 | .int v :: .ref 0::r=>if k%3=0 then some (r,P S 0 (k/3) v) else if k%3=1 then some (r,P S 0 (k/3) (v&&&1)) else none
 |_=>none
def isI:FieldType→Bool
 | .int=>true
 |_=>false
def isB:FieldType→Bool
 | .boolean=>true
 | .byte=>true
 |_=>false
def al(arrs:List (FieldType×Nat))(G:σ→Nat→Nat→Int32)(ok:FieldType→Bool)(S:σ):List Value→Option (List Value×σ)
 | .int i :: .ref (j+1)::r=>match arrs[j]? with
  |some q=>if ok q.1=true∧inb i q.2=true then some (.int (G S (j+1) i.toNatClampNeg)::r,S) else none
  |none=>none
 |_=>none
def sa(arrs:List (FieldType×Nat))(P:σ→Nat→Nat→Int32→σ)(ok:FieldType→Bool)(S:σ):List Value→Option (List Value×σ)
 | .int v :: .int i :: .ref (j+1)::r=>match arrs[j]? with
  |some q=>if ok q.1=true∧inb i q.2=true then some (r,P S (j+1) i.toNatClampNeg (nar q.1 v)) else none
  |none=>none
 |_=>none
def la(arrs:List (FieldType×Nat))(S:σ):List Value→Option (List Value×σ)
 | .ref (j+1)::r=>match arrs[j]? with
  |some q=>some (.int (Int32.ofNat q.2)::r,S)
  |none=>none
 |_=>none
def mop1(arrs:List (FieldType×Nat))(G:σ→Nat→Nat→Int32)(P:σ→Nat→Nat→Int32→σ):Mop σ:=fun _ i st S=>match i with
 | .getfield k=>gf G k S st
 | .putfield k=>pf P k S st
 | .iaload=>al arrs G isI S st
 | .baload=>al arrs G isB S st
 | .iastore=>sa arrs P isI S st
 | .bastore=>sa arrs P isB S st
 | .arraylength=>la arrs S st
 |_=>none
def okn:List Value→Bool
 |[]=>true
 | .int _::r=>okn r
 | .long _::r=>okn r
 |_::_=>false
def cop1(na ml wm:Nat→Nat):Cop:=fun m i st=>match i with
 | .invokevirtual k=>(match takeA (na k) [] st with
  |some (as,.ref 0::r)=>if okn as=true∧cats r≤wm m∧(entL (.ref 0::as)).length≤ml k then some (k,.ref 0::as,r) else none
  |_=>none)
 |_=>none
end Ops
theorem takeA_spec:∀ {n:Nat} {acc st as r:List Value},takeA n acc st=some (as,r)→∃q,q.length=n∧as=q++acc∧st=q.reverse++r
 |0,acc,st,as,r,h=>by cases h;exact⟨[],rfl,rfl,rfl⟩
 |n+1,acc,[],as,r,h=>by cases h
 |n+1,acc,v::st,as,r,h=>by
  obtain⟨q,h1,h2,h3⟩:=takeA_spec (n:=n) h
  exact⟨q++[v],by simp[h1],by simp[h2],by simp[h3]⟩
theorem okn_spec:∀ {vs:List Value},okn vs=true→okv vs=true∧∀ρ,vs.map (cv ρ)=vs
 |[],_=>⟨rfl,fun _=>rfl⟩
 |w::r,h=>by
  cases w<;>simp only[okn] at h<;>try (cases h;done)
  all_goals
   obtain⟨a,b⟩:=okn_spec h
   exact⟨a,fun ρ=>by rw[List.map_cons,b];rfl⟩
def ObjAt(C:String)(fds:List (String×String×Nat))(arrs:List (FieldType×Nat))(Z:State)(h:Heap)(a:Nat)(g:Nat→Nat→Int32):Prop:=
 Exa Z h a C∧(∀n d k,(n,d,k)∈fds→Fld Z h a C n d (if k%3=2 then .ref (a+(k/3+1)) else .int (g 0 (k/3)))) ∧
 ∀(j:Nat) (ty:FieldType) (len:Nat),arrs[j]? = some (ty,len)→∃cell,Arr Z h (a+(j+1)) cell ty∧cell.slots.size=len∧∀i,i<len→cell.slots[i]? = some (.int (g (j+1) i))
def ClsOK(C:String)(fds:List (String×String×Nat))(arrs:List (FieldType×Nat))(Tb:Tabs)(Z:State)(a0:Array Value):Prop:=
 (∃kk,(Cond.instantiable C kk).before a0 Z=true) ∧
 (∀n d k,(n,d,k)∈fds→Laid Z a0 C C n d∧(k%3≠2→(Cond.lays C C n d).before a0 Z=true)∧(k%3=0→d = "I")∧(k%3=1→d = "Z")∧∃t,parseFieldDescriptor d=some t) ∧
 (∀n d k n' d' k',(n,d,k)∈fds→(n',d',k')∈fds→n=n'→d=d'∧k=k') ∧
 (∀n d k n' d' k',(n,d,k)∈fds→(n',d',k')∈fds→n≠n'→k%3≠2→k'%3≠2→k/3≠k'/3) ∧
 (∀idx n d k,(idx,n,d,k)∈Tb.1→(Cond.fieldLink C idx C n d).before a0 Z=true∧(n,d,k)∈fds) ∧
 ∀(j:Nat) (ty:FieldType) (n:Nat),arrs[j]? = some (ty,n)→ty = .int∨ty = .boolean∨ty = .byte
def rng(arrs:List (FieldType×Nat))(a:Nat):List Nat:=(List.range (arrs.length+1)).map fun r=>a+r
theorem mem_rng{arrs:List (FieldType×Nat)}{a r:Nat}(h:r≤arrs.length):a+r∈rng arrs a:=List.mem_map.mpr ⟨r,List.mem_range.mpr (by omega),rfl⟩
section Obj
variable {C:String} {fds:List (String×String×Nat)} {arrs:List (FieldType×Nat)} {Tb:Tabs} {Z:State} {a0:Array Value} {h h':Heap} {a:Nat} {g g':Nat→Nat→Int32}
theorem ne1(a j:Nat):a+(j+1)≠a:=by omega
theorem ne2(a j:Nat):a≠a+(j+1):=by omega
theorem ne3(a:Nat){j j':Nat}(h:j'≠j):a+(j'+1)≠a+(j+1):=by omega
theorem ObjAt.put(K:ClsOK C fds arrs Tb Z a0)(O:ObjAt C fds arrs Z h a g){n d:String}{k:Nat}(hm:(n,d,k)∈fds)(hk:k%3≠2){v:Int32}(W:Wr h h' a (Jvm.RoadKit.slotOf Z C n d) (.int v))
  (hg:∀c i,g' c i=if c=0∧i=k/3 then v else g c i):ObjAt C fds arrs Z h' a g':=by
 obtain⟨O1,O2,O3⟩:=O
 obtain⟨-,K2,K3,K4,-,-⟩:=K
 refine⟨O1.wr W,fun n' d' k' hm'=>?_,fun j ty len hj=>?_⟩
 ·have F:=O2 n' d' k' hm'
  by_cases e:n=n'
  ·obtain⟨rfl,rfl⟩:=K3 _ _ _ _ _ _ hm hm' e
   subst e
   rw[if_neg hk] at F ⊢
   rw[hg,if_pos ⟨rfl,rfl⟩]
   exact F.same W
  ·obtain⟨l1,-,-,-,t1,p1⟩:=K2 _ _ _ hm
   obtain⟨l2,-,-,-,t2,p2⟩:=K2 _ _ _ hm'
   have F':=F.other W (Or.inr (slot_ne l2 l1 (Ne.symm e) p2 p1))
   by_cases q:k'%3=2
   ·rw[if_pos q] at F' ⊢;exact F'
   ·rw[if_neg q] at F' ⊢
    rw[hg,if_neg (fun x=>K4 _ _ _ _ _ _ hm hm' e hk q x.2.symm)]
    exact F'
 ·obtain⟨cell,A,z,H⟩:=O3 j ty len hj
  refine⟨cell,A.other W (ne1 a j),z,fun i hi=>?_⟩
  rw[hg,if_neg (fun x=>by omega)]
  exact H i hi
theorem ObjAt.set(O:ObjAt C fds arrs Z h a g){j:Nat}{ty:FieldType}{len:Nat}(hj:arrs[j]? = some (ty,len)){i:Nat}(hi:i<len){v:Int32}(W:Wr h h' (a+(j+1)) i (.int v))
  (hg:∀c r,g' c r=if c=j+1∧r=i then v else g c r):ObjAt C fds arrs Z h' a g':=by
 obtain⟨O1,O2,O3⟩:=O
 refine⟨O1.wr W,fun n' d' k' hm'=>?_,fun j' ty' len' hj'=>?_⟩
 ·have F:=(O2 n' d' k' hm').other W (Or.inl (ne2 a j))
  by_cases q:k'%3=2
  ·rw[if_pos q] at F ⊢;exact F
  ·rw[if_neg q] at F ⊢
   rw[hg,if_neg (fun x=>by omega)]
   exact F
 ·obtain⟨cell,A,z,H⟩:=O3 j' ty' len' hj'
  by_cases e:j'=j
  ·subst e
   cases hj.symm.trans hj'
   refine⟨cell.setSlot i (.int v),A.same W,by rw[sz_set];exact z,fun r hr=>?_⟩
   rw[hg]
   by_cases q:r=i
   ·subst q
    rw[if_pos ⟨rfl,rfl⟩]
    simp[Cell.setSlot,z,hr]
   ·rw[if_neg (fun x=>q x.2)]
    have:=H r hr
    simp only[Cell.setSlot]
    rw[Array.getElem?_setIfInBounds_ne (Ne.symm q)]
    exact this
  ·refine⟨cell,A.other W (ne3 a e),z,fun r hr=>?_⟩
   rw[hg,if_neg (fun x=>by omega)]
   exact H r hr
theorem ObjAt.keep{ws:List Nat}(O:ObjAt C fds arrs Z h a g)(K:Keep h h' ws)(hn:∀r,r≤arrs.length→a+r∉ws):ObjAt C fds arrs Z h' a g:=by
 obtain⟨O1,O2,O3⟩:=O
 have ha:a∉ws:=hn 0 (Nat.zero_le _)
 refine⟨?_,fun n d k hm=>?_,fun j ty len hj=>?_⟩
 ·obtain⟨cell,k,h1,r⟩:=O1
  exact⟨cell,k,K.2.1 a cell h1 ha,r⟩
 ·obtain⟨cell,cf,kc,i,f,h1,r⟩:=O2 n d k hm
  exact⟨cell,cf,kc,i,f,K.2.1 a cell h1 ha,r⟩
 ·obtain⟨cell,A,r⟩:=O3 j ty len hj
  have hlt:=(List.getElem?_eq_some_iff.mp hj).1
  exact⟨cell,⟨K.2.1 _ cell A.1 (hn _ (by omega)),A.2⟩,r⟩
end Obj
section L1
variable {σ:Type} (C:String) (fds:List (String×String×Nat)) (arrs:List (FieldType×Nat)) (Tb:Tabs) (Z:State) (a0:Array Value) (G:σ→Nat→Nat→Int32) (P:σ→Nat→Nat→Int32→σ) (mi:MI) (rt:Nat→Option FieldType) (l:Launch)
abbrev I1:=Nat×Heap×Nat×Nat×Nat
def rho1(x:I1)(r:Nat):Nat:=x.1+r
def J1(x:I1)(R:Room)(_:State)(_:Nat)(S:σ)(T:State)(locs:List Loc)(cells slots:Nat):Prop:=
 cells=x.2.2.2.1∧slots=x.2.2.2.2∧cells≤R.cells∧slots≤R.slots∧ObjAt C fds arrs Z T.heap x.1 (G S)∧Keep x.2.1 T.heap (rng arrs x.1)∧Fr x.2.2.1 locs∧x.2.2.1≤x.1
variable {C fds arrs Tb Z a0 G P mi rt l}
theorem canon_get{ml pc k:Nat}{i0:Instr}(h:canon Tb ml pc i0=some (.getfield k)):∃idx n d,i0 = .getfield idx∧(idx,n,d,k)∈Tb.1:=by
 cases i0<;>try (simp[canon,lt,plain1,heapy] at h;done)
 case getfield idx=>
  obtain⟨⟨n,d,k'⟩,h1,h2⟩:=Option.map_eq_some_iff.mp h
  cases h2
  exact⟨idx,n,d,rfl,lk_mem h1⟩
theorem canon_put{ml pc k:Nat}{i0:Instr}(h:canon Tb ml pc i0=some (.putfield k)):∃idx n d,i0 = .putfield idx∧(idx,n,d,k)∈Tb.1:=by
 cases i0<;>try (simp[canon,lt,plain1,heapy] at h;done)
 case putfield idx=>
  obtain⟨⟨n,d,k'⟩,h1,h2⟩:=Option.map_eq_some_iff.mp h
  cases h2
  exact⟨idx,n,d,rfl,lk_mem h1⟩
theorem canon_heapy {ml pc : Nat} {i0 i : Instr} (hi : heapy i = true) (h : canon Tb ml pc i0 = some i) : i0 = i := by
  cases i0
  all_goals first
    | (simp [canon, plain1, heapy] at h; done)
    | (simp [canon, plain1, heapy] at h; exact h)
    | (exfalso
       simp only [canon] at h
       first
         | (cases h; simp [heapy] at hi; done)
         | (obtain ⟨w, h1, h2⟩ := Option.map_eq_some_iff.mp h; cases h2; simp [heapy] at hi; done)
         | (obtain ⟨h1, h2⟩ := lt_inv h; subst h2; simp [heapy] at hi; done)
         | (split at h
            · cases h; simp [heapy] at hi
            · cases h)
         | (simp [plain1] at h; subst h; simp [heapy] at hi; done))
theorem canon_inv{ml pc k:Nat}{i0:Instr}(h:canon Tb ml pc i0=some (.invokevirtual k)):∃idx,i0 = .invokevirtual idx∧(idx,k)∈Tb.2.1:=by
 cases i0<;>try (simp[canon,lt,plain1,heapy] at h;done)
 case invokevirtual idx=>
  obtain⟨k',h1,h2⟩:=Option.map_eq_some_iff.mp h
  cases h2
  exact⟨idx,rfl,lk_mem h1⟩
set_option maxHeartbeats 1000000 in
theorem mop1_ok{code:Codes}(K:ClsOK C fds arrs Tb Z a0)(hGP:∀S c i v c' i',G (P S c i v) c' i'=if c'=c∧i'=i then v else G S c' i'):MopOK code rt (mop1 arrs G P) Tb mi C Z l rho1 (J1 C fds arrs Z G):=by
 intro x p e R s m args below meth c mm pc len i0 i st st' S S' T locs cells slots L X F hJ hs hd ho hc hcd hm
 obtain⟨hx,hZ,hown,-,-,-,-,-,-⟩:=F
 obtain⟨hc0,hs0,hcR,hsR,O,Kp,N,hn⟩:=hJ
 have hlt:∀ {j:Nat} {q:FieldType×Nat},arrs[j]? = some q→j+1≤arrs.length:=fun q=>by have:=(List.getElem?_eq_some_iff.mp q).1;omega
 unfold mop1 at hm
 split at hm
 ·-- getfield
  rename_i k
  obtain⟨idx,n,d,rfl,hmem⟩:=canon_get hc
  obtain rfl:len=3:=by simpa [lenOK,ilen] using ho
  obtain⟨wl,hf⟩:=K.2.2.2.2.1 _ _ _ _ hmem
  have Fd:=O.2.1 n d k hf
  unfold gf at hm
  split at hm
  ·rename_i r
   obtain⟨T',X',e',st1⟩:=getF X hx hZ hown (host := "") (Or.inl wl) Via.refl rfl Fd (g:=mkF m pc L (.ref x.1::r.map (cv (rho1 x)))) rfl rfl hd
   refine⟨T',locs,cells,slots,X',⟨hc0,hs0,hcR,hsR,?_⟩,?_⟩
   ·rw[e']
    split at hm<;>(cases hm;exact⟨O,Kp,N,hn⟩)
   ·split at hm
    ·rename_i q
     cases hm
     rw[if_pos q] at st1
     exact fun t kt=>st1 t kt
    ·rename_i q
     cases hm
     rw[if_neg q] at st1
     exact fun t kt=>st1 t kt
  ·cases hm
 ·-- putfield
  rename_i k
  obtain⟨idx,n,d,rfl,hmem⟩:=canon_put hc
  obtain rfl:len=3:=by simpa [lenOK,ilen] using ho
  obtain⟨wl,hf⟩:=K.2.2.2.2.1 _ _ _ _ hmem
  have Fd:=O.2.1 n d k hf
  obtain⟨-,k2,k3,k4,-⟩:=K.2.1 n d k hf
  obtain⟨kk,wi⟩:=K.1
  unfold pf at hm
  split at hm
  ·rename_i v r
   split at hm
   ·rename_i q
    have q2:k%3≠2:=by omega
    cases hm
    have hd':=k3 q
    subst hd'
    obtain⟨T',h',X',e',W,st1⟩:=putFN X hx hZ hown wl Via.refl rfl Fd O.1 (Or.inl (k2 q2)) wi (ty:= .int) (by decide) (v:= .int v) (v':= .int v) rfl rfl (g:=mkF m pc L (.int v :: .ref x.1::st'.map (cv (rho1 x)))) rfl rfl hd
    subst e'
    exact⟨T',_,cells,slots,X',⟨hc0,hs0,hcR,hsR,O.put K hf q2 W (fun c i=>hGP S 0 (k/3) v c i),Kp.wr W (Or.inl (mem_rng (r:=0) (Nat.zero_le _))),N.app fun y hy=>by cases List.mem_singleton.mp hy;exact hn,hn⟩,fun t kt=>st1 t kt⟩
   ·split at hm
    ·rename_i q
     have q2:k%3≠2:=by omega
     cases hm
     have hd':=k4 q
     subst hd'
     obtain⟨T',h',X',e',W,st1⟩:=putFN X hx hZ hown wl Via.refl rfl Fd O.1 (Or.inl (k2 q2)) wi (ty:= .boolean) (by decide) (v:= .int v) (v':= .int (v&&&1)) rfl (fits_nar_bool v) (g:=mkF m pc L (.int v :: .ref x.1::st'.map (cv (rho1 x)))) rfl rfl hd
     subst e'
     exact⟨T',_,cells,slots,X',⟨hc0,hs0,hcR,hsR,O.put K hf q2 W (fun c i=>hGP S 0 (k/3) (v&&&1) c i),Kp.wr W (Or.inl (mem_rng (r:=0) (Nat.zero_le _))),N.app fun y hy=>by cases List.mem_singleton.mp hy;exact hn,hn⟩,fun t kt=>st1 t kt⟩
    ·cases hm
  ·cases hm
 ·-- iaload
  obtain rfl:=canon_heapy rfl hc
  obtain rfl:len=1:=by simpa [lenOK,ilen] using ho
  unfold al at hm
  split at hm
  ·rename_i j a r
   split at hm
   ·rename_i q hq
    split at hm
    ·rename_i hb
     cases hm
     obtain⟨ty,n⟩:=q
     obtain⟨cell,A,z,H⟩:=O.2.2 _ _ _ hq
     obtain rfl:ty = .int:=by cases ty<;>simp[isI] at hb ⊢
     have hin:=inb_spec hb.2
     rw[←z] at hin
     have hv:=H j.toNatClampNeg (by rw[←z];exact Nat.lt_of_not_le fun q=>hin (Or.inr q))
     exact⟨T,locs,cells,slots,X,⟨hc0,hs0,hcR,hsR,O,Kp,N,hn⟩,fun t kt=>X.iaload hx A.1 (State.isArrayOf_alike hZ.alike A.2.1) A.2.2 hin hv (g:=mkF m pc L (.int j :: .ref (x.1+(a+1))::r.map (cv (rho1 x)))) rfl rfl hd t kt⟩
    ·cases hm
   ·cases hm
  ·cases hm
 ·-- baload
  obtain rfl:=canon_heapy rfl hc
  obtain rfl:len=1:=by simpa [lenOK,ilen] using ho
  unfold al at hm
  split at hm
  ·rename_i j a r
   split at hm
   ·rename_i q hq
    split at hm
    ·rename_i hb
     cases hm
     obtain⟨ty,n⟩:=q
     obtain⟨cell,A,z,H⟩:=O.2.2 _ _ _ hq
     have hin:=inb_spec hb.2
     rw[←z] at hin
     have hv:=H j.toNatClampNeg (by rw[←z];exact Nat.lt_of_not_le fun q=>hin (Or.inr q))
     refine⟨T,locs,cells,slots,X,⟨hc0,hs0,hcR,hsR,O,Kp,N,hn⟩,fun t kt=>?_⟩
     have hty:ty = .boolean∨ty = .byte:=by cases ty<;>simp[isB] at hb ⊢
     rcases hty with rfl | rfl
     ·exact X.baloadBooleans hx A.1 (State.isArrayOf_alike hZ.alike A.2.1) A.2.2 hin hv (g:=mkF m pc L (.int j :: .ref (x.1+(a+1))::r.map (cv (rho1 x)))) rfl rfl hd t kt
     ·exact X.baloadBytes hx A.1 (State.isArrayOf_alike hZ.alike A.2.1) A.2.2 hin hv (g:=mkF m pc L (.int j :: .ref (x.1+(a+1))::r.map (cv (rho1 x)))) rfl rfl hd t kt
    ·cases hm
   ·cases hm
  ·cases hm
 ·-- iastore
  obtain rfl:=canon_heapy rfl hc
  obtain rfl:len=1:=by simpa [lenOK,ilen] using ho
  unfold sa at hm
  split at hm
  ·rename_i v j a r
   split at hm
   ·rename_i q hq
    split at hm
    ·rename_i hb
     cases hm
     obtain⟨ty,n⟩:=q
     obtain⟨cell,A,z,H⟩:=O.2.2 _ _ _ hq
     obtain rfl:ty = .int:=by cases ty<;>simp[isI] at hb ⊢
     have hin:=inb_spec hb.2
     have hlt':j.toNatClampNeg<n:=Nat.lt_of_not_le fun q=>hin (Or.inr q)
     rw[←z] at hin
     obtain⟨T',h',X',e',W,st1⟩:=stI X hx hZ rfl A (j:=j) hin (g:=mkF m pc L (.int v :: .int j :: .ref (x.1+(a+1))::st'.map (cv (rho1 x)))) rfl rfl hd
     subst e'
     exact⟨T',_,cells,slots,X',⟨hc0,hs0,hcR,hsR,O.set hq hlt' W (fun c i=>hGP S (a+1) _ v c i),Kp.wr W (Or.inl (mem_rng (hlt hq))),N.app fun y hy=>by cases List.mem_singleton.mp hy;exact Nat.le_trans hn (Nat.le_add_right _ _),hn⟩,fun t kt=>st1 t kt⟩
    ·cases hm
   ·cases hm
  ·cases hm
 ·-- bastore
  obtain rfl:=canon_heapy rfl hc
  obtain rfl:len=1:=by simpa [lenOK,ilen] using ho
  unfold sa at hm
  split at hm
  ·rename_i v j a r
   split at hm
   ·rename_i q hq
    split at hm
    ·rename_i hb
     cases hm
     obtain⟨ty,n⟩:=q
     obtain⟨cell,A,z,H⟩:=O.2.2 _ _ _ hq
     have hin:=inb_spec hb.2
     have hlt':j.toNatClampNeg<n:=Nat.lt_of_not_le fun q=>hin (Or.inr q)
     rw[←z] at hin
     have hty:ty = .boolean∨ty = .byte:=by cases ty<;>simp[isB] at hb ⊢
     rcases hty with rfl | rfl
     ·obtain⟨T',h',X',e',W,st1⟩:=stZ X hx hZ rfl A (j:=j) hin (g:=mkF m pc L (.int v :: .int j :: .ref (x.1+(a+1))::st'.map (cv (rho1 x)))) rfl rfl hd
      subst e'
      exact⟨T',_,cells,slots,X',⟨hc0,hs0,hcR,hsR,O.set hq hlt' W (fun c i=>hGP S (a+1) _ _ c i),Kp.wr W (Or.inl (mem_rng (hlt hq))),N.app fun y hy=>by cases List.mem_singleton.mp hy;exact Nat.le_trans hn (Nat.le_add_right _ _),hn⟩,fun t kt=>st1 t kt⟩
     ·obtain⟨T',h',X',e',W,st1⟩:=stB X hx hZ rfl A (j:=j) hin (g:=mkF m pc L (.int v :: .int j :: .ref (x.1+(a+1))::st'.map (cv (rho1 x)))) rfl rfl hd
      subst e'
      exact⟨T',_,cells,slots,X',⟨hc0,hs0,hcR,hsR,O.set hq hlt' W (fun c i=>hGP S (a+1) _ _ c i),Kp.wr W (Or.inl (mem_rng (hlt hq))),N.app fun y hy=>by cases List.mem_singleton.mp hy;exact Nat.le_trans hn (Nat.le_add_right _ _),hn⟩,fun t kt=>st1 t kt⟩
    ·cases hm
   ·cases hm
  ·cases hm
 ·-- arraylength
  obtain rfl:=canon_heapy rfl hc
  obtain rfl:len=1:=by simpa [lenOK,ilen] using ho
  unfold la at hm
  split at hm
  ·rename_i a r
   split at hm
   ·rename_i q hq
    cases hm
    obtain⟨ty,n⟩:=q
    obtain⟨cell,A,z,H⟩:=O.2.2 _ _ _ hq
    subst z
    exact⟨T,locs,cells,slots,X,⟨hc0,hs0,hcR,hsR,O,Kp,N,hn⟩,fun t kt=>X.arraylength hx A.1 (State.isArrayOf_alike hZ.alike A.2.1) (g:=mkF m pc L (.ref (x.1+(a+1))::r.map (cv (rho1 x)))) rfl rfl hd t kt⟩
   ·cases hm
  ·cases hm
 ·cases hm
def MthOK(C:String)(Tb:Tabs)(Z:State)(a0:Array Value)(mi:MI)(rt:Nat→Option FieldType)(own:String)(k:Nat)(na:Nat→Nat):Prop:=
 (∀idx,(idx,k)∈Tb.2.1→VirtW Z a0 C own idx (mi k).1 (mi k).2.1 (mi k).2.2.1 (rt k))∧∃ps,parseMethodDescriptor (mi k).1.desc=some ⟨ps,rt k⟩∧ps.length=na k
theorem met1{code:Codes}{mop:Mop σ}{cop:Cop}{n:Nat}(hW:Walks code rt mop cop mi C Z l rho1 (J1 C fds arrs Z G) n)(hpn:plainName C=true){k:Nat}(hcls:(mi k).1.cls=C){as:List Value}(hok:okn as=true)(hlen:(entL (.ref 0::as)).length≤(mi k).2.2.1)
  {S:σ} {r:Res σ} (hit:iter (plan code rt mop cop) n (k,0,entL (.ref 0::as),[],S)=some r) {a:Nat} {h:Heap} {n0:Nat} (O:ObjAt C fds arrs Z h a (G S)) (hn:n0≤a) (ws:List Jvm.Cond) :
  MetFree l (mi k).1 (head1 (Cond.code (mi k).1 (mi k).2.1 (mi k).2.2.1 (rt k)::ws) ({ frames:=(mi k).2.2.2.1,cells:=0,slots:=0,locals:=(mi k).2.2.2.2 }:Room))
   (fun A U=>A=(.ref a::as).toArray∧Z.Warmed39 U.vm∧U.heap=h) (fun _ _ _ _ _=>True)
   (fun _ U o U'=>∃v L,o = .returned v∧(v=r.1∧(∀ρ',r.1.map (cv ρ')=r.1)∧Fr n0 L∧Keep h U'.heap (rng arrs a)∧ObjAt C fds arrs Z U'.heap a (G r.2))∧FrameEnd U o U' L 0 0):=by
 refine MetFree.of_bodySF (plainFor_of_name (by rw[hcls];exact hpn)) hisR ?_
 intro p e s m args below meth c s₁ Bd hml0 hP hK
 obtain⟨rfl,hZ,hh⟩:=hP
 have hown:s.vm.findClass C=some m.cls:=by rw[←hcls];exact findClass_of_methodNamed Bd.named
 have hnm:=(name_of_methodNamed Bd.named Bd.method).1
 have X0:=Stand.of_body Bd
 have e0:s₁.heap=h:=by rw[←hh,Bd.state];rfl
 obtain⟨L,q1,q2,q3,q4⟩:=entry_rel (rho1 (a,h,n0,0,0)) (vs:= .ref 0::as) (by simpa [okv] using (okn_spec hok).1) hlen
 obtain⟨T',L',k',n',X',⟨j1,j2,-,-,j5,j6,j7,-⟩,⟨ok1,ok2⟩,st⟩:=hW (a,h,n0,0,0) p e _ s m _ below meth c k 0 _ [] S r hit s₁ [] 0 0 L X0 ⟨Bd.exec,hZ,hown,Bd.bytes,hml0,Bd.returns,hnm,Nat.le_refl _,Nat.le_refl _⟩
  ⟨rfl,rfl,Nat.le_refl _,Nat.le_refl _,by rw[e0];exact O,by rw[e0];exact Keep.refl _ _,Fr.nil _,hn⟩ q2 q3 (by rw[q4,hml0])
 obtain⟨fs,hr,hrun,hended,hWm,hsame⟩:=X'.leave (v:=r.1) ok1
 refine⟨_,_,?_,hrun,hended,_,_,rfl,⟨rfl,ok2,j7,j6,j5⟩,⟨_,rfl⟩,hWm,by subst j1 j2;exact hsame⟩
 have:=st fs hr
 rw[show entryFrame m (.ref a::as).toArray (mi k).2.2.1=mkF m 0 L [] from by rw[←q1 m,List.map_cons,(okn_spec hok).2];rfl]
 exact this
def RoomOK(code:Codes)(mi:MI)(wm:Nat→Nat):Prop:=∀mm pc k pn kp,code mm pc=some (.invokevirtual k,pn,kp)→(mi k).2.2.2.1+1≤(mi mm).2.2.2.1∧wm mm+((mi k).2.2.1+11)+(mi k).2.2.2.2≤(mi mm).2.2.2.2
theorem cop1_ok{code:Codes}{na wm:Nat→Nat}{mop:Mop σ}(K:ClsOK C fds arrs Tb Z a0)(hpn:plainName C=true)(wz:(Cond.initialized C).before a0 Z=true)(hC:C ≠ "java/lang/invoke/MethodHandle" ∧ C ≠ "java/lang/invoke/VarHandle")
  (hm:∀k idx,(idx,k)∈Tb.2.1→MthOK C Tb Z a0 mi rt C k na) (hR:RoomOK code mi wm) :
  CopOK code rt mop (cop1 na (fun k=>(mi k).2.2.1) wm) Tb mi C Z l rho1 (J1 C fds arrs Z G):=by
 intro n hW x p e R s m args below meth c mm pc len i0 i st q S r T locs cells slots L X F hJ hs hd ho hc hne hq hit
 obtain⟨hx,hZ,hown,f4,f5,f6,f7,f8,f9⟩:=F
 obtain⟨hc0,hs0,hcR,hsR,O,Kp,N,hn⟩:=hJ
 unfold cop1 at hq
 split at hq
 ·rename_i k
  split at hq
  ·rename_i as r0 ht
   split at hq
   ·rename_i hb
    cases hq
    obtain⟨hok,hcat,hlen⟩:=hb
    obtain⟨idx,rfl,hmem⟩:=canon_inv hc
    obtain rfl:len=3:=by simpa [lenOK,ilen] using ho
    obtain⟨hv,ps,hps,hna⟩:=hm k idx hmem
    have hv:=hv idx hmem
    obtain⟨kk,wi⟩:=K.1
    obtain⟨qs,q1,q2,q3⟩:=takeA_spec ht
    have q2':as=qs:=by simpa using q2
    subst q2'
    obtain⟨kp,hcd⟩:=hne
    have hroom:=hR mm pc k _ kp hcd
    have hM:=met1 (ws:=[]) hW hpn (hv.1) hok hlen hit O hn
    have hcR':cells+0≤R.cells:=hcR
    have hsR':slots+0≤R.slots:=hsR
    obtain⟨v,T',Lc,X',⟨e1,e0,e2,e3,e4⟩,G'⟩:=callV X hx hZ hown hv wi wz hC hps (as':=as) (by omega) (Q:=fun v h' L=>v=r.1∧(∀ρ',r.1.map (cv ρ')=r.1)∧Fr x.2.2.1 L∧Keep T.heap h' (rng arrs x.1)∧ObjAt C fds arrs Z h' x.1 (G r.2)) hM rfl O.1 (W:=wm mm) (rm:={ frames:=(mi k).2.2.2.1,cells:=0,slots:=0,locals:=(mi k).2.2.2.2 }) (Nat.le_trans hroom.1 f8) (Nat.le_trans hroom.2 f9) hcR' hsR' hs (rest:=r0.map (cv (rho1 x))) (st:=st.map (cv (rho1 x)))
     (by rw[q3,List.map_append,List.map_reverse,(okn_spec hok).2];rfl) (by
      have:(r0.map (cv (rho1 x))).map (fun v=>v.category)=r0.map fun v=>v.category:=by
       rw[List.map_map];apply List.map_congr_left;intro v _;cases v<;>rfl
      rw[this];exact hcat) hd
    subst e1
    refine⟨T',_,_,_,X',⟨hc0,hs0,hcR,hsR,e4,Kp.trans e3 (fun y hy=>Or.inl hy),N.app e2,hn⟩,?_⟩
    have:(r.1.toList++r0).map (cv (rho1 x))=r.1.toList++r0.map (cv (rho1 x)):=by
     rw[List.map_append]
     congr 1
     have:=e0 (rho1 x)
     cases hr:r.1 with
     |none=>rfl
     |some w=>rw[hr] at this;simpa using this
    rw[this]
    exact G'
   ·cases hq
  ·cases hq
 ·cases hq
end L1
abbrev Item:=Option ArrayType×Nat×String×String
def Part(C:String)(gds:List (String×String))(fds:List (String×String×Nat))(arrs:List (FieldType×Nat))(Z:State)(h:Heap)(a:Nat)(g:Nat→Int32)(k:Nat):Prop:=
 Exa Z h a C∧(∀n d,(n,d)∈gds→∃v,Fld Z h a C n d v) ∧
 (∀n d q,(n,d,q)∈fds→if q%3=2 then (if q/3<k then Fld Z h a C n d (.ref (a+(q/3+1))) else ∃v,Fld Z h a C n d v) else Fld Z h a C n d (.int (g (q/3)))) ∧
 (∀(j:Nat) (ty:FieldType) (len:Nat),j<k→arrs[j]? = some (ty,len)→∃cell,Arr Z h (a+(j+1)) cell ty∧cell.slots.size=len∧∀i,i<len→cell.slots[i]? = some (.int 0))∧h.size=a+1+k
def proChk(bytes:ByteArray)(Tb:Tabs)(ml:Nat)(gds:List (String×String))(fds:List (String×String×Nat))(arrs:List (FieldType×Nat))(pe:Nat):List Item→Nat→Nat→List (Nat×Int)→Bool
 |[],pc,k,iv=>decide (pc=pe)&&decide (k=arrs.length)&&decide (iv=[])
 |(t,idx,n,d)::r,pc,k,iv=>(match decode bytes pc with
  | .ok (.aload_n 0,1)=>(match decode bytes (pc+1) with
   | .ok (ip,lp)=>lenOK ip lp&&(match canon Tb ml (pc+1) ip with
    |some (.iconst v)=>(match t with
     |some t=>(match decode bytes (pc+1+lp),decode bytes (pc+1+lp+2) with
      | .ok (.newarray t',2),.ok (.putfield idx',3)=>decide (t'=t)&&decide (idx'=idx)&&decide (0≤v)&&decide (v<65536)&&decide (arrs[k]? = some (newarray.typeOf t,v.toNat))&&decide ((n,d,3*k+2)∈fds)&&proChk bytes Tb ml gds fds arrs pe r (pc+1+lp+5) (k+1) iv
      |_,_=>false)
     |none=>(match decode bytes (pc+1+lp) with
      | .ok (.putfield idx',3)=>decide (idx'=idx)&&(if (n,d)∈gds then proChk bytes Tb ml gds fds arrs pe r (pc+1+lp+3) k iv else (match iv with
       |q::iv=>decide ((n,d,3*q.1)∈fds)&&decide (q.2=v)&&proChk bytes Tb ml gds fds arrs pe r (pc+1+lp+3) k iv
       |[]=>false))
      |_=>false))
    |_=>false)
   |_=>false)
  |_=>false)
def finG(g:Nat→Int32)(iv:List (Nat×Int)):Nat→Int32:=iv.foldl (fun g q=>fun i=>if i=q.1 then Int32.ofInt q.2 else g i) g
def slotSum(arrs:List (FieldType×Nat))(k:Nat):Nat:=((arrs.take k).map (·.2)).sum
theorem slotSum_succ{arrs:List (FieldType×Nat)}{k:Nat}{q:FieldType×Nat}(h:arrs[k]? = some q):slotSum arrs (k+1)=slotSum arrs k+q.2:=by
 unfold slotSum
 rw[List.take_add_one,h]
 simp
theorem slotSum_le{arrs:List (FieldType×Nat)}:∀ {k n:Nat},k≤n→slotSum arrs k≤slotSum arrs n:=by
 intro k n h
 induction h with
 |refl=>exact Nat.le_refl _
 | @step m _ ih=>
  cases hq:arrs[m]? with
  |none=>
   have:arrs.length≤m:=by simpa using hq
   unfold slotSum at ih ⊢
   rw[List.take_of_length_le (Nat.le_succ_of_le this)]
   rw[List.take_of_length_le this] at ih
   exact ih
  |some q=>rw[slotSum_succ hq];omega
section Maker
variable {C:String} {gds:List (String×String)} {fds:List (String×String×Nat)} {arrs:List (FieldType×Nat)} {Tb:Tabs} {Z:State} {a0:Array Value} {h h':Heap} {a:Nat}
def MakOK(C:String)(gds:List (String×String))(fds:List (String×String×Nat))(arrs:List (FieldType×Nat))(items:List Item)(Z:State)(a0:Array Value):Prop:=
 (∀t idx n d,(t,idx,n,d)∈items→(Cond.fieldLink C idx C n d).before a0 Z=true∧Laid Z a0 C C n d∧(t=none→d = "I")∧(t≠none→∃u,parseFieldDescriptor d=some (.array u))∧∀t',t=some t'→(Cond.arrayClass (newarray.typeOf t')).before a0 Z=true) ∧
 (∀n d,(n,d)∈gds→Laid Z a0 C C n d∧d = "I" ∧ ∀n' d' k',(n',d',k')∈fds→n≠n') ∧
 (∀n d n' d' q,(n,d,q)∈fds→(n',d',q)∈fds→n=n') ∧
 (∀n d n' d',(n,d)∈gds→(n',d')∈gds→n=n'→d=d')∧∀(j:Nat) (ty:FieldType) (n:Nat),arrs[j]? = some (ty,n)→defaultValue ty = .int 0
theorem i32_lit{v:Int}(h0:0≤v)(h1:v<65536):¬Int32.ofInt v<0∧(Int32.ofInt v).toNatClampNeg=v.toNat:=by
 have e:(Int32.ofInt v).toInt=v:=Int32.toInt_ofInt_of_le (by omega) (by omega)
 constructor
 ·rw[Int32.lt_iff_toInt_lt,e]
  have:(0:Int32).toInt=0:=rfl
  omega
 ·simp only[Int32.toNatClampNeg,e]
section Pro
variable {p:Program} {l:Launch} {e:Env} {R:Room} {s:State} {m:MethodId} {args:Array Value} {below:List Frame} {meth:Method} {c:Code} {ρ:Nat→Nat} {items:List Item} {pe n0:Nat} {h0:Heap} {ls:List Value} {L:Array Slot}
theorem simPush{T:State}{locs:List Loc}{cells slots:Nat}(X:Stand p l e R s m args below meth c T locs cells slots)(hx:p.tables.exec=Jvm.exec)(hZ:Z.Warmed39 s.vm){own:String}(hown:s.vm.findClass own=some m.cls)(hC:Cst Tb Z a0 own){pc lp ml:Nat}{ip:Instr}{v:Int}(hd:decode c.code pc = .ok (ip,lp))(ho:lenOK ip lp=true)(hc:canon Tb ml pc ip=some (.iconst v)){st:List Value} :
  Go p e below T (mkF m pc L st) T (mkF m (pc+lp) L (.int (Int32.ofInt v)::st)):=by
 intro t kt
 cases ip<;>try (simp[canon,lt,plain1,heapy] at hc;done)
 case iconst j=>
  cases hc;obtain rfl:lp=1:=by simpa [lenOK,ilen] using ho
  exact XS.iconst X.here hx rfl hd kt
 case bipush j=>
  cases hc;obtain rfl:lp=2:=by simpa [lenOK,ilen] using ho
  rw[Int32.ofInt_toInt] at kt
  exact XS.bipush X.here hx rfl hd kt
 case sipush j=>
  cases hc;obtain rfl:lp=3:=by simpa [lenOK,ilen] using ho
  rw[Int32.ofInt_toInt] at kt
  exact XS.sipush X.here hx rfl hd kt
 case ldc j=>
  obtain⟨w,hw,hc⟩:=Option.map_eq_some_iff.mp hc;cases hc;obtain rfl:lp=2:=by simpa [lenOK,ilen] using ho
  rw[Int32.ofInt_toInt] at kt
  exact X.ldcInt hx hown (cst1 hZ hC hw) (g:=mkF m pc L st) rfl hd _ kt
set_option maxHeartbeats 1000000 in
theorem pro_walk (K : ClsOK C fds arrs Tb Z a0) (M : MakOK C gds fds arrs items Z a0) (hx : p.tables.exec = Jvm.exec) (hZ : Z.Warmed39 s.vm) (hown : s.vm.findClass C = some m.cls) (hCs : Cst Tb Z a0 C) (hnm : meth.name = "<init>") (hn : n0 ≤ a) (RL : LocRel ρ (.ref 0 :: ls) L) (W : WFL L) (hρ : ρ 0 = a) (hsz : s.heap.size = a + 1)
    (hRc : arrs.length ≤ R.cells) (hRs : slotSum arrs arrs.length ≤ R.slots) :
    ∀ (its : List Item) (pc k : Nat) (iv : List (Nat × Int)) (g : Nat → Int32) (T : State) (locs : List Loc), (∀ it ∈ its, it ∈ items) → proChk c.code Tb L.size gds fds arrs pe its pc k iv = true → Stand p l e R s m args below meth c T locs k (slotSum arrs k) → Part C gds fds arrs Z T.heap a g k → Keep h0 T.heap (rng arrs a) → Fr n0 locs →
      ∃ T' locs', Stand p l e R s m args below meth c T' locs' arrs.length (slotSum arrs arrs.length) ∧ Part C gds fds arrs Z T'.heap a (finG g iv) arrs.length ∧ Keep h0 T'.heap (rng arrs a) ∧ Fr n0 locs' ∧ Go p e below T (mkF m pc L []) T' (mkF m pe L []) := by
  intro its
  induction its with
  | nil =>
    intro pc k iv g T locs _ hp X Pt Kp N
    simp only [proChk, Bool.and_eq_true, decide_eq_true_eq] at hp
    obtain ⟨⟨rfl, rfl⟩, rfl⟩ := hp
    exact ⟨T, locs, X, Pt, Kp, N, fun t kt => kt⟩
  | cons it r ih =>
    intro pc k iv g T locs hin hp X Pt Kp N
    obtain ⟨t, idx, n, d⟩ := it
    obtain ⟨wl, ld, hd1, hd2, hd3⟩ := M.1 t idx n d (hin _ (List.mem_cons_self ..))
    have hin' : ∀ it ∈ r, it ∈ items := fun it h => hin it (List.mem_cons_of_mem _ h)
    obtain ⟨kk, wi⟩ := K.1
    obtain ⟨P1, P2, P3, P4, P5⟩ := Pt
    simp only [proChk] at hp
    split at hp
    · rename_i hdA
      split at hp
      · rename_i ip lp hdP
        simp only [Bool.and_eq_true] at hp
        obtain ⟨hlo, hp⟩ := hp
        split at hp
        · rename_i v hcan
          have sA : ∀ (T : State) (locs : List Loc) (cells slots : Nat), Stand p l e R s m args below meth c T locs cells slots → Go p e below T (mkF m pc L []) T (mkF m (pc + 1 + lp) L [.int (Int32.ofInt v), .ref a]) := by
            intro T locs cells slots X t kt
            refine XS.aloadN X.here hx rfl hdA (RL 0 (.ref 0) rfl (by simp)) rfl ?_
            show Steps p.tables e below (T.setTop (mkF m (pc + 1) L [.ref (ρ 0)])) t
            rw [hρ]
            exact simPush X hx hZ hown hCs hdP hlo hcan t kt
          split at hp
          · -- an array
            rename_i t
            split at hp
            · rename_i t' idx' hdN hdF
              simp only [Bool.and_eq_true, decide_eq_true_eq] at hp
              obtain ⟨⟨⟨⟨⟨⟨rfl, rfl⟩, h1⟩, h2⟩, h3⟩, h4⟩, hp⟩ := hp
              obtain ⟨hneg, hnat⟩ := i32_lit h1 h2
              have hk : k < arrs.length := (List.getElem?_eq_some_iff.mp h3).1
              have hS := slotSum_succ h3
              have hle := slotSum_le (arrs := arrs) (show k + 1 ≤ arrs.length from hk)
              simp only [] at hS
              obtain ⟨T1, hh1, cA, X1, e1, E1, A1, st1⟩ := newP X hx hZ (hd3 t' rfl) rfl (g := mkF m (pc + 1 + lp) L [.int (Int32.ofInt v), .ref a]) rfl hdN rfl hneg (cap := v.toNat) (by omega) (by omega) (by omega) (by omega)
              subst e1
              have hsz1 : T1.heap.size = a + 1 + (k + 1) := by
                have u := X1.heapSize
                have lo : T.heap.size < T1.heap.size := A1.lt
                omega
              have eA : T.heap.size = a + (k + 1) := by omega
              have F1 : ∃ v, Fld Z T.heap a C n d v := by
                have := P3 n d _ h4
                rw [if_pos (by omega), if_neg (by omega)] at this
                exact this
              obtain ⟨v0, F1⟩ := F1
              obtain ⟨u, hu⟩ := hd2 (by simp)
              have LL : (Cond.lays C C n d).before a0 Z = true ∨ ((Cond.laysFinal C C n d).before a0 Z = true ∧ C = C ∧ meth.name = "<init>") := ld.imp id (fun q => ⟨q, rfl, hnm⟩)
              obtain ⟨T2, hh2, X2, e2, W2, st2⟩ := putF X1 hx hZ hown (host := "") (Or.inl wl) Via.refl rfl (F1.ext E1) (P1.ext E1) LL wi (ty := .array u) hu (v := .ref T.heap.size) rfl rfl (g := mkF m (pc + 1 + lp + 2) L [.ref T.heap.size, .ref a]) rfl rfl hdF
              subst e2
              rw [← hS] at X2
              have Pt2 : Part C gds fds arrs Z T2.heap a g (k + 1) := by
                refine ⟨(P1.ext E1).wr W2, fun n' d' hg => ?_, fun n' d' q hq => ?_, fun j ty len hj hq => ?_, by rw [W2.size]; exact hsz1⟩
                · obtain ⟨v', Fg⟩ := P2 n' d' hg
                  obtain ⟨lg, rfl, hne⟩ := M.2.1 n' d' hg
                  exact ⟨v', (Fg.ext E1).other W2 (Or.inr (slot_ne lg ld (hne _ _ _ h4) (t := .int) (by decide) hu))⟩
                · have Fq := P3 n' d' q hq
                  by_cases e' : n' = n
                  · obtain ⟨rfl, rfl⟩ := K.2.2.1 _ _ _ _ _ _ hq h4 e'
                    subst e'
                    rw [if_pos (by omega), if_pos (by omega)]
                    have hsame := (F1.ext E1).same W2
                    have e3 : (3 * k + 2) / 3 + 1 = k + 1 := by omega
                    rw [e3, ← eA]
                    exact hsame
                  · obtain ⟨l2, -, -, -, t2, p2⟩ := K.2.1 _ _ _ hq
                    have ns := slot_ne l2 ld e' p2 hu
                    by_cases q3 : q % 3 = 2
                    · rw [if_pos q3] at Fq ⊢
                      by_cases q4 : q / 3 < k
                      · rw [if_pos q4] at Fq
                        rw [if_pos (by omega)]
                        exact (Fq.ext E1).other W2 (Or.inr ns)
                      · rw [if_neg q4] at Fq
                        have : ¬ q / 3 < k + 1 := fun q5 => by
                          have : q = 3 * k + 2 := by omega
                          subst this
                          exact e' (M.2.2.1 _ _ _ _ _ hq h4)
                        rw [if_neg this]
                        obtain ⟨v', Fq⟩ := Fq
                        exact ⟨v', (Fq.ext E1).other W2 (Or.inr ns)⟩
                    · rw [if_neg q3] at Fq ⊢
                      exact (Fq.ext E1).other W2 (Or.inr ns)
                · by_cases q4 : j < k
                  · obtain ⟨cell, A, z, H⟩ := P4 j ty len q4 hq
                    exact ⟨cell, (A.ext E1).other W2 (ne1 a j), z, H⟩
                  · have : j = k := by omega
                    subst this
                    cases h3.symm.trans hq
                    rw [eA] at A1
                    refine ⟨_, A1.other W2 (ne1 a j), by rw [sz_new, hnat], fun i hi => ?_⟩
                    have := M.2.2.2.2 j _ _ hq
                    simp only [newA, this, hnat]
                    rw [Array.getElem?_replicate, if_pos hi]
              obtain ⟨T', locs', X', Pt', Kp', N', G'⟩ := ih (pc + 1 + lp + 5) (k + 1) iv g T2 _ hin' hp X2 Pt2 ((Kp.ext E1).wr W2 (Or.inl (mem_rng (r := 0) (Nat.zero_le _)))) (N.app fun y hy => by cases List.mem_singleton.mp hy; exact hn)
              exact ⟨T', locs', X', Pt', Kp', N', fun t kt => sA T locs _ _ X t (st1 t (st2 t (G' t kt)))⟩
            · cases hp
          · -- a constant field
            split at hp
            · rename_i idx' hdF
              simp only [Bool.and_eq_true, decide_eq_true_eq] at hp
              obtain ⟨rfl, hp⟩ := hp
              split at hp
              · -- one that is not read
                rename_i hg
                obtain ⟨v0, F1⟩ := P2 n d hg
                obtain ⟨lg, rfl, hne⟩ := M.2.1 n d hg
                have LL : (Cond.lays C C n "I").before a0 Z = true ∨ ((Cond.laysFinal C C n "I").before a0 Z = true ∧ C = C ∧ meth.name = "<init>") := ld.imp id (fun q => ⟨q, rfl, hnm⟩)
                obtain ⟨T2, hh2, X2, e2, W2, st2⟩ := putF X hx hZ hown (host := "") (Or.inl wl) Via.refl rfl F1 P1 LL wi (ty := .int) (by decide) (v := .int (Int32.ofInt v)) rfl rfl (g := mkF m (pc + 1 + lp) L [.int (Int32.ofInt v), .ref a]) rfl rfl hdF
                subst e2
                have Pt2 : Part C gds fds arrs Z T2.heap a g k := by
                  refine ⟨P1.wr W2, fun n' d' hg' => ?_, fun n' d' q hq => ?_, fun j ty len hj hq => ?_, by rw [W2.size]; exact P5⟩
                  · obtain ⟨v', Fg⟩ := P2 n' d' hg'
                    by_cases e' : n' = n
                    · obtain rfl := M.2.2.2.1 _ _ _ _ hg' hg e'
                      subst e'
                      exact ⟨_, Fg.same W2⟩
                    · obtain ⟨lg', rfl, -⟩ := M.2.1 n' d' hg'
                      exact ⟨v', Fg.other W2 (Or.inr (slot_ne lg' lg e' (t := .int) (t' := .int) (by decide) (by decide)))⟩
                  · have Fq := P3 n' d' q hq
                    obtain ⟨l2, -, -, -, t2, p2⟩ := K.2.1 _ _ _ hq
                    have ns := slot_ne l2 lg (Ne.symm (hne _ _ _ hq)) p2 (t' := .int) (by decide)
                    by_cases q3 : q % 3 = 2
                    · rw [if_pos q3] at Fq ⊢
                      by_cases q4 : q / 3 < k
                      · rw [if_pos q4] at Fq ⊢
                        exact Fq.other W2 (Or.inr ns)
                      · rw [if_neg q4] at Fq ⊢
                        obtain ⟨v', Fq⟩ := Fq
                        exact ⟨v', Fq.other W2 (Or.inr ns)⟩
                    · rw [if_neg q3] at Fq ⊢
                      exact Fq.other W2 (Or.inr ns)
                  · obtain ⟨cell, A, z, H⟩ := P4 j ty len hj hq
                    exact ⟨cell, A.other W2 (ne1 a j), z, H⟩
                obtain ⟨T', locs', X', Pt', Kp', N', G'⟩ := ih (pc + 1 + lp + 3) k iv g T2 _ hin' hp X2 Pt2 (Kp.wr W2 (Or.inl (mem_rng (r := 0) (Nat.zero_le _)))) (N.app fun y hy => by cases List.mem_singleton.mp hy; exact hn)
                exact ⟨T', locs', X', Pt', Kp', N', fun t kt => sA T locs _ _ X t (st2 t (G' t kt))⟩
              · -- one that is read
                split at hp
                · rename_i q0 iv
                  obtain ⟨sl0, v1⟩ := q0
                  simp only [Bool.and_eq_true, decide_eq_true_eq] at hp
                  obtain ⟨⟨hm, rfl⟩, hp⟩ := hp
                  have F1 := P3 n d _ hm
                  rw [if_neg (by omega)] at F1
                  obtain ⟨-, kl, kI, -⟩ := K.2.1 n d _ hm
                  obtain rfl := kI (by omega)
                  have e3 : 3 * sl0 / 3 = sl0 := by omega
                  rw [e3] at F1
                  obtain ⟨T2, hh2, X2, e2, W2, st2⟩ := putF X hx hZ hown (host := "") (Or.inl wl) Via.refl rfl F1 P1 (Or.inl (kl (by omega))) wi (ty := .int) (by decide) (v := .int (Int32.ofInt v1)) rfl rfl (g := mkF m (pc + 1 + lp) L [.int (Int32.ofInt v1), .ref a]) rfl rfl hdF
                  subst e2
                  have Pt2 : Part C gds fds arrs Z T2.heap a (fun i => if i = sl0 then Int32.ofInt v1 else g i) k := by
                    refine ⟨P1.wr W2, fun n' d' hg' => ?_, fun n' d' q hq => ?_, fun j ty len hj hq => ?_, by rw [W2.size]; exact P5⟩
                    · obtain ⟨v', Fg⟩ := P2 n' d' hg'
                      obtain ⟨lg', rfl, hne⟩ := M.2.1 n' d' hg'
                      exact ⟨v', Fg.other W2 (Or.inr (slot_ne lg' ld (hne _ _ _ hm) (t := .int) (t' := .int) (by decide) (by decide)))⟩
                    · have Fq := P3 n' d' q hq
                      by_cases e' : n' = n
                      · obtain ⟨rfl, rfl⟩ := K.2.2.1 _ _ _ _ _ _ hq hm e'
                        subst e'
                        rw [if_neg (by omega)] at Fq ⊢
                        rw [e3]
                        dsimp only
                        rw [if_pos rfl]
                        exact Fq.same W2
                      · obtain ⟨l2, -, -, -, t2, p2⟩ := K.2.1 _ _ _ hq
                        have ns := slot_ne l2 ld e' p2 (t' := .int) (by decide)
                        by_cases q3 : q % 3 = 2
                        · rw [if_pos q3] at Fq ⊢
                          split at Fq
                          · rename_i q4; rw [if_pos q4]; exact Fq.other W2 (Or.inr ns)
                          · rename_i q4; rw [if_neg q4]
                            obtain ⟨v', Fq⟩ := Fq
                            exact ⟨v', Fq.other W2 (Or.inr ns)⟩
                        · rw [if_neg q3] at Fq ⊢
                          have : q / 3 ≠ sl0 := fun q5 => K.2.2.2.1 _ _ _ _ _ _ hq hm e' q3 (by omega) (by omega)
                          dsimp only
                          rw [if_neg this]
                          exact Fq.other W2 (Or.inr ns)
                    · obtain ⟨cell, A, z, H⟩ := P4 j ty len hj hq
                      exact ⟨cell, A.other W2 (ne1 a j), z, H⟩
                  obtain ⟨T', locs', X', Pt', Kp', N', G'⟩ := ih (pc + 1 + lp + 3) k iv _ T2 _ hin' hp X2 Pt2 (Kp.wr W2 (Or.inl (mem_rng (r := 0) (Nat.zero_le _)))) (N.app fun y hy => by cases List.mem_singleton.mp hy; exact hn)
                  exact ⟨T', locs', X', Pt', Kp', N', fun t kt => sA T locs _ _ X t (st2 t (G' t kt))⟩
                · cases hp
            · cases hp
        · cases hp
      · cases hp
    · cases hp
end Pro
theorem Part.done(K:ClsOK C fds arrs Tb Z a0)(hcov:∀n d q,(n,d,q)∈fds→q%3=2→q/3<arrs.length){g:Nat→Nat→Int32}{g0:Nat→Int32}(hg0:∀i,g 0 i=g0 i)(hg:∀c i,g (c+1) i=0)(Pt:Part C gds fds arrs Z h a g0 arrs.length):ObjAt C fds arrs Z h a g:=by
 obtain⟨P1,P2,P3,P4,P5⟩:=Pt
 refine⟨P1,fun n d q hq=>?_,fun j ty len hj=>?_⟩
 ·have F:=P3 n d q hq
  by_cases q3:q%3=2
  ·rw[if_pos q3,if_pos (hcov n d q hq q3)] at F
   rw[if_pos q3];exact F
  ·rw[if_neg q3] at F ⊢
   rw[hg0];exact F
 ·obtain⟨cell,A,z,H⟩:=P4 j ty len (List.getElem?_eq_some_iff.mp hj).1 hj
  exact⟨cell,A,z,fun i hi=>by rw[hg];exact H i hi⟩
section Met0
variable {σ:Type} {G:σ→Nat→Nat→Int32} {mi:MI} {rt:Nat→Option FieldType} {l:Launch} {items:List Item} {pe oi:Nat} {iv:List (Nat×Int)}
theorem met0{code:Codes}{mop:Mop σ}{cop:Cop}{n:Nat}(hW:Walks code rt mop cop mi C Z l rho1 (J1 C fds arrs Z G) n)(hpn:plainName C=true)(hcls:(mi 0).1.cls=C)(hnm0:(mi 0).1.name = "<init>")(hrt:rt 0=none)(K:ClsOK C fds arrs Tb Z a0)(M:MakOK C gds fds arrs items Z a0)(hCs:Cst Tb Z a0 C)
  (hcov:∀n d q,(n,d,q)∈fds→q%3=2→q/3<arrs.length) (hp:proChk (mi 0).2.1 Tb (mi 0).2.2.1 gds fds arrs pe items 4 0 iv=true) (d0:decode (mi 0).2.1 0 = .ok (.aload_n 0,1)) (d1:decode (mi 0).2.1 1 = .ok (.invokespecial oi,3))
  (w1:(Cond.methodLink C oi Lib.objectInit).before a0 Z=true) (w2:(Cond.instanceMethod Lib.objectInit).before a0 Z=true) (w3:(Cond.code Lib.objectInit ⟨#[0xb1]⟩ 1 none).before a0 Z=true) (hf:1≤(mi 0).2.2.2.1) (hlw:12≤(mi 0).2.2.2.2)
  {as:List Value} (hok:okn as=true) (hlen:(entL (.ref 0::as)).length≤(mi 0).2.2.1) {S:σ} (hS0:∀i,G S 0 i=finG (fun _=>0) iv i) (hS:∀c i,G S (c+1) i=0) {r:Res σ} (hit:iter (plan code rt mop cop) n (0,pe,entL (.ref 0::as),[],S)=some r) {a:Nat} {h:Heap} {n0:Nat} (Pt:Part C gds fds arrs Z h a (fun _=>0) 0) (hn:n0≤a) (ws:List Jvm.Cond) :
  MetFree l (mi 0).1 (head1 (Cond.code (mi 0).1 (mi 0).2.1 (mi 0).2.2.1 none::ws) ({ frames:=(mi 0).2.2.2.1,cells:=arrs.length,slots:=slotSum arrs arrs.length,locals:=(mi 0).2.2.2.2 }:Room))
   (fun A U=>A=(.ref a::as).toArray∧Z.Warmed39 U.vm∧U.heap=h) (fun _ _ _ _ _=>True)
   (fun _ U o U'=>∃v L,o = .returned v∧(v=none∧Fr n0 L∧Keep h U'.heap (rng arrs a)∧ObjAt C fds arrs Z U'.heap a (G r.2))∧FrameEnd U o U' L arrs.length (slotSum arrs arrs.length)):=by
 refine MetFree.of_bodySF (plainFor_of_name (by rw[hcls];exact hpn)) hisR ?_
 intro p e s m args below meth c s₁ Bd hml0 hP hK
 obtain⟨rfl,hZ,hh⟩:=hP
 have hx:=Bd.exec
 have hby:=Bd.bytes
 have hown:s.vm.findClass C=some m.cls:=by rw[←hcls];exact findClass_of_methodNamed Bd.named
 have hnm:=(name_of_methodNamed Bd.named Bd.method).1
 have X0:=Stand.of_body Bd
 have e0:s₁.heap=h:=by rw[←hh,Bd.state];rfl
 have x:I1:=(a,h,n0,arrs.length,slotSum arrs arrs.length)
 obtain⟨L,q1,q2,q3,q4⟩:=entry_rel (rho1 (a,h,n0,arrs.length,slotSum arrs arrs.length)) (vs:= .ref 0::as) (by simpa [okv] using (okn_spec hok).1) hlen
 have hsz:L.size=c.maxLocals:=by rw[q4,hml0]
 have q2':LocRel (rho1 (a,h,n0,arrs.length,slotSum arrs arrs.length)) (.ref 0::entL as) L:=q2
 obtain⟨T1,X1,e1,st1⟩:=initO X0 hx hZ hown w1 w2 w3 e0 (g:=mkF m 1 L [.ref a]) rfl hsz rfl (hb hby d1) hf (W:=0) (by show 2*0+_≤_;exact Nat.le_of_eq rfl) (by show 0+12≤(mi 0).2.2.2.2;omega)
 obtain⟨T2,locs2,X2,P2,K2,N2,G2⟩:=pro_walk (ρ:=rho1 (a,h,n0,arrs.length,slotSum arrs arrs.length)) (pe:=pe) (h0:=h) (items:=items) K M hx hZ hown hCs (hnm.trans hnm0) hn q2' q3 rfl (by rw[hh];exact Pt.2.2.2.2) (Nat.le_refl _) (Nat.le_refl _) items 4 0 iv (fun _=>0) T1 [] (fun _ h=>h) (by rw[hby,q4];exact hp) X1 (by rw[e1];exact Pt) (by rw[e1];exact Keep.refl _ _) (Fr.nil _)
 obtain⟨T',L',k',n',X',⟨j1,j2,-,-,j5,j6,j7,-⟩,⟨ok1,ok2⟩,st⟩:=hW (a,h,n0,arrs.length,slotSum arrs arrs.length) p e _ s m _ below meth c 0 pe _ [] S r hit T2 locs2 _ _ L X2 ⟨hx,hZ,hown,hby,hml0,by rw[hrt];exact Bd.returns,hnm,Nat.le_refl _,Nat.le_refl _⟩
  ⟨rfl,rfl,Nat.le_refl _,Nat.le_refl _,P2.done K hcov hS0 hS,K2,N2,hn⟩ q2 q3 hsz
 have hr0:r.1=none:=ok1 Bd.returns
 obtain⟨fs,hr,hrun,hended,hWm,hsame⟩:=X'.leave (v:=none) (fun _=>rfl)
 rw[hr0] at st
 refine⟨_,_,?_,hrun,hended,_,_,rfl,⟨rfl,j7,j6,j5⟩,⟨_,rfl⟩,hWm,by subst j1 j2;exact hsame⟩
 rw[show entryFrame m (.ref a::as).toArray (mi 0).2.2.1=mkF m 0 L [] from by rw[←q1 m,List.map_cons,(okn_spec hok).2];rfl]
 refine XS.aloadN X0.here hx rfl (hb hby d0) (q2' 0 (.ref 0) rfl (by simp)) rfl ?_
 exact st1 _ (G2 _ (st fs hr))
end Met0
end Maker
section Ops2
variable {σ:Type}
abbrev W2(σ:Type):=Bool×List σ
def nw(nmax m:Nat)(st:List Value):W2 σ→Option (List Value×W2 σ)
 |(false,ob)=>if m=0∧ob.length<nmax then some (.ref (ob.length+1)::st,(true,ob)) else none
 |_=>none
def ct(f1:Cfg σ→Option (Res σ))(Z0:σ)(pe na0 ml0 w m:Nat)(st:List Value):W2 σ→Option (List Value×W2 σ)
 |(true,ob)=>(match takeA na0 [] st with
  |some (as,.ref r::rest)=>if (m=0∧r=ob.length+1)∧okn as=true∧cats rest≤w∧(entL (.ref 0::as)).length≤ml0 then (f1 (0,pe,entL (.ref 0::as),[],Z0)).map fun q=>(rest,(false,ob++[q.2])) else none
  |_=>none)
 |_=>none
def vt(f1:Cfg σ→Option (Res σ))(na ml:Nat→Nat)(w k:Nat)(st:List Value):W2 σ→Option (List Value×W2 σ)
 |(false,ob)=>(match takeA (na k) [] st with
  |some (as,.ref (o+1)::rest)=>(match ob[o]? with
   |some S=>if okn as=true∧cats rest≤w∧(entL (.ref 0::as)).length≤ml k then (f1 (k,0,entL (.ref 0::as),[],S)).map fun q=>(q.1.toList++rest,(false,ob.set o q.2)) else none
   |none=>none)
  |_=>none)
 |_=>none
def sl(sc:List Int32)(w:W2 σ):List Value→Option (List Value×W2 σ)
 | .int i :: .ref 0::r=>if inb i sc.length=true then some (.int (sc.getD i.toNatClampNeg 0)::r,w) else none
 |_=>none
def sn(sc:List Int32)(w:W2 σ):List Value→Option (List Value×W2 σ)
 | .ref 0::r=>some (.int (Int32.ofNat sc.length)::r,w)
 |_=>none
def mop2(f1:Cfg σ→Option (Res σ))(Z0:σ)(pe nmax:Nat)(na ml wm:Nat→Nat)(sc:Option (List Int32)):Mop (W2 σ):=fun m i st w=>match i with
 | .new _=>nw nmax m st w
 | .invokespecial _=>ct f1 Z0 pe (na 0) (ml 0) (wm m) m st w
 | .invokevirtual k=>vt f1 na ml (wm m) k st w
 | .iaload=>(match sc with
  |some xs=>sl xs w st
  |none=>none)
 | .arraylength=>(match sc with
  |some xs=>sn xs w st
  |none=>none)
 |_=>none
def cop2(na ml wm:Nat→Nat):Cop:=fun m i st=>match i with
 | .invokestatic k=>(match takeA (na k) [] st with
  |some (as,r)=>if k≠0∧okv as=true∧cats r≤wm m∧(entL as).length≤ml k then some (k,as,r) else none
  |none=>none)
 |_=>none
def cnt(K1:Nat)(w:W2 σ):Nat:=w.2.length*K1+(if w.1=true then 1 else 0)
def scn(fs s1:Nat)(w:W2 σ):Nat:=w.2.length*(fs+s1)+(if w.1=true then fs else 0)
end Ops2
section L2
variable {σ:Type} (C:String) (gds:List (String×String)) (fds:List (String×String×Nat)) (arrs:List (FieldType×Nat)) (Z:State) (G:σ→Nat→Nat→Int32) (fs nmax:Nat) (sc:Option (List Int32))
abbrev I2:=Nat×Nat×Nat×Nat
def rho2(K1:Nat)(x:I2):Nat→Nat
 |0=>x.1
 |o+1=>x.2.1+o*K1
def Heap2(sa n0:Nat)(w:W2 σ)(h:Heap):Prop:=
 (∀(o:Nat) (S:σ),w.2[o]? = some S→ObjAt C fds arrs Z h (n0+o*(arrs.length+1)) (G S))∧(w.1=true→Part C gds fds arrs Z h (n0+w.2.length*(arrs.length+1)) (fun _=>0) 0∧w.2.length<nmax)∧h.size=n0+cnt (arrs.length+1) w ∧
 ∀xs,sc=some xs→sa<n0∧xs.length<2147483648∧∃cell,Arr Z h sa cell .int∧cell.slots.size=xs.length∧∀i,i<xs.length→cell.slots[i]? = some (.int (xs.getD i 0))
def J2(x:I2)(R:Room)(s:State)(mm:Nat)(w:W2 σ)(T:State)(locs:List Loc)(cells slots:Nat):Prop:=
 (cells+x.2.2.1=cnt (arrs.length+1) w∧slots+x.2.2.2=scn fs (slotSum arrs arrs.length) w)∧(cells≤R.cells∧slots≤R.slots) ∧
 (mm=0→x.2.2.1=0∧x.2.2.2=0∧nmax*(arrs.length+1)≤R.cells∧nmax*(fs+slotSum arrs arrs.length)≤R.slots)∧(mm≠0→cells=0∧slots=0)∧s.heap.size=x.2.1+x.2.2.1∧Heap2 C gds fds arrs Z G nmax sc x.1 x.2.1 w T.heap∧Fr x.2.1 locs
variable {C gds fds arrs Z G fs nmax sc}
theorem ObjAt.ext{h h':Heap}{a:Nat}{g:Nat→Nat→Int32}(O:ObjAt C fds arrs Z h a g)(E:Ext h h'):ObjAt C fds arrs Z h' a g:=
 ⟨O.1.ext E,fun n d k hm=>(O.2.1 n d k hm).ext E,fun j ty len hj=>by obtain⟨cell,A,r⟩:=O.2.2 j ty len hj;exact⟨cell,A.ext E,r⟩⟩
theorem rng_far{K:List (FieldType×Nat)}{n0 o o' r:Nat}(h:o≠o')(hr:r≤K.length):n0+o*(K.length+1)+r∉rng K (n0+o'*(K.length+1)):=by
 intro q
 obtain⟨r',h1,h2⟩:=List.mem_map.mp q
 have h1:=List.mem_range.mp h1
 rcases Nat.lt_or_gt_of_ne h with c | c
 ·have:=Nat.mul_le_mul_right (K.length+1) (show o+1≤o' from c)
  rw[Nat.add_mul] at this
  omega
 ·have:=Nat.mul_le_mul_right (K.length+1) (show o'+1≤o from c)
  rw[Nat.add_mul] at this
  omega
theorem rng_low{K:List (FieldType×Nat)}{n0 o sa:Nat}(h:sa<n0):sa∉rng K (n0+o*(K.length+1)):=by
 intro q
 obtain⟨r',h1,h2⟩:=List.mem_map.mp q
 omega
variable {Tb1 Tb2:Tabs} {a0:Array Value} {mi1 mi2:MI} {rt1 rt2:Nat→Option FieldType} {l:Launch} {own:String} {na1 na2 wm1 wm2:Nat→Nat} {code1:Codes} {P:σ→Nat→Nat→Int32→σ} {items:List Item} {pe oi:Nat} {Z0:σ} {iv:List (Nat×Int)}
def CtW(Z:State)(a0:Array Value)(Tb2:Tabs)(own:String)(y:MethodName)(bytes:ByteArray)(ml:Nat):Prop:=
 (∀idx q,(idx,q)∈Tb2.2.2.2.2.2.2→(Cond.methodLink own idx y).before a0 Z=true)∧(Cond.instanceMethod y).before a0 Z=true∧(Cond.code y bytes ml none).before a0 Z=true
theorem canon_new{Tb:Tabs}{ml pc k:Nat}{i0:Instr}(h:canon Tb ml pc i0=some (.new k)):∃idx,i0 = .new idx∧(idx,k)∈Tb.2.2.2.2.2.1:=by
 cases i0<;>try (simp[canon,lt,plain1,heapy] at h;done)
 case new idx=>
  obtain⟨k',h1,h2⟩:=Option.map_eq_some_iff.mp h
  cases h2
  exact⟨idx,rfl,lk_mem h1⟩
theorem canon_spec{Tb:Tabs}{ml pc k:Nat}{i0:Instr}(h:canon Tb ml pc i0=some (.invokespecial k)):∃idx,i0 = .invokespecial idx∧(idx,k)∈Tb.2.2.2.2.2.2:=by
 cases i0<;>try (simp[canon,lt,plain1,heapy] at h;done)
 case invokespecial idx=>
  obtain⟨k',h1,h2⟩:=Option.map_eq_some_iff.mp h
  cases h2
  exact⟨idx,rfl,lk_mem h1⟩
theorem canon_stat{Tb:Tabs}{ml pc k:Nat}{i0:Instr}(h:canon Tb ml pc i0=some (.invokestatic k)):∃idx,i0 = .invokestatic idx∧(idx,k)∈Tb.2.2.1:=by
 cases i0<;>try (simp[canon,lt,plain1,heapy] at h;done)
 case invokestatic idx=>
  obtain⟨k',h1,h2⟩:=Option.map_eq_some_iff.mp h
  cases h2
  exact⟨idx,rfl,lk_mem h1⟩
def Base(C:String)(gds:List (String×String))(fds:List (String×String×Nat))(arrs:List (FieldType×Nat))(items:List Item)(Z:State)(a0:Array Value)(fs:Nat)(Tb1:Tabs)(mi1:MI)(rt1:Nat→Option FieldType)(na1:Nat→Nat)(pe oi:Nat)(iv:List (Nat×Int)):Prop:=
 (ClsOK C fds arrs Tb1 Z a0∧MakOK C gds fds arrs items Z a0∧Cst Tb1 Z a0 C∧(Cond.instantiable C fs).before a0 Z=true∧(Cond.initialized C).before a0 Z=true) ∧
 (plainName C=true∧(C ≠ "java/lang/invoke/MethodHandle" ∧ C ≠ "java/lang/invoke/VarHandle")∧(mi1 0).1.cls=C∧(mi1 0).1.name = "<init>" ∧ rt1 0=none) ∧
 (∀n d q,(n,d,q)∈fds→q%3=2→q/3<arrs.length) ∧
 (proChk (mi1 0).2.1 Tb1 (mi1 0).2.2.1 gds fds arrs pe items 4 0 iv=true∧decode (mi1 0).2.1 0 = .ok (.aload_n 0,1)∧decode (mi1 0).2.1 1 = .ok (.invokespecial oi,3)) ∧
 ((Cond.methodLink C oi Lib.objectInit).before a0 Z=true∧(Cond.instanceMethod Lib.objectInit).before a0 Z=true∧(Cond.code Lib.objectInit ⟨#[0xb1]⟩ 1 none).before a0 Z=true) ∧
 (1≤(mi1 0).2.2.2.1∧12≤(mi1 0).2.2.2.2)∧∃ps,parseMethodDescriptor (mi1 0).1.desc=some ⟨ps,none⟩∧ps.length=na1 0
def Room2(mi1 mi2:MI)(wm2:Nat→Nat)(mm k:Nat):Prop:=(mi1 k).2.2.2.1+1≤(mi2 mm).2.2.2.1∧wm2 mm+((mi1 k).2.2.1+11)+(mi1 k).2.2.2.2≤(mi2 mm).2.2.2.2
set_option maxHeartbeats 1000000 in
theorem mop2_ok{code2:Codes}{f1:Cfg σ→Option (Res σ)}(B:Base C gds fds arrs items Z a0 fs Tb1 mi1 rt1 na1 pe oi iv){mop:Mop σ}{cop:Cop}(hW:∀n,Walks code1 rt1 mop cop mi1 C Z l rho1 (J1 C fds arrs Z G) n)(hf1:∀c r,f1 c=some r→∃n,iter (plan code1 rt1 mop cop) n c=some r)(hZ00:∀i,G Z0 0 i=finG (fun _=>0) iv i)(hZ0:∀c i,G Z0 (c+1) i=0)
  (hnew:∀idx q,(idx,q)∈Tb2.2.2.2.2.2.1→(Cond.classLink own idx C).before a0 Z=true) (hct:CtW Z a0 Tb2 own (mi1 0).1 (mi1 0).2.1 (mi1 0).2.2.1) (hvt:∀k idx,(idx,k)∈Tb2.2.1→MthOK C Tb2 Z a0 mi1 rt1 own k na1)
  (hR:∀mm pc k pn kp,code2 mm pc=some (.invokevirtual k,pn,kp)→Room2 mi1 mi2 wm2 mm k) (hR0:∀mm pc k pn kp,code2 mm pc=some (.invokespecial k,pn,kp)→Room2 mi1 mi2 wm2 mm 0) :
  MopOK code2 rt2 (mop2 f1 Z0 pe nmax na1 (fun k=>(mi1 k).2.2.1) wm2 sc) Tb2 mi2 own Z l (rho2 (arrs.length+1)) (J2 C gds fds arrs Z G fs nmax sc):=by
 intro x p e R s m args below meth c mm pc len i0 i st st' w w' T locs cells slots L X F hJ hs hd ho hc hcd hm
 obtain⟨hx,hZ,hown,f4,f5,f6,f7,f8,f9⟩:=F
 obtain⟨⟨j1,j2⟩,⟨j3,j4⟩,j5,j6,j7,⟨H1,H2,H3,H4⟩,N⟩:=hJ
 obtain⟨⟨K,M,hCs,wi,wz⟩,⟨hpn,hC,hcls,hnm0,hrt0⟩,hcov,⟨hp,d0,d1⟩,⟨w1,w2,w3⟩,⟨hfr,hlw⟩,ps0,hps0,hna0⟩:=B
 have hcat:∀(ρ:Nat→Nat) (r0:List Value),((r0.map (cv ρ)).map fun v=>v.category).sum=cats r0:=by
  intro ρ r0
  have:(r0.map (cv ρ)).map (fun v=>v.category)=r0.map fun v=>v.category:=by
   rw[List.map_map];apply List.map_congr_left;intro v _;cases v<;>rfl
  rw[this];rfl
 unfold mop2 at hm
 split at hm
 ·-- new
  rename_i k
  obtain⟨idx,rfl,hmem⟩:=canon_new hc
  obtain rfl:len=3:=by simpa [lenOK,ilen] using ho
  unfold nw at hm
  split at hm
  ·rename_i ob
   split at hm
   ·rename_i hb
    obtain⟨rfl,hlt⟩:=hb
    cases hm
    obtain⟨c0,s0,hRc,hRs⟩:=j5 rfl
    have m1:(ob.length+1)*(arrs.length+1)≤nmax*(arrs.length+1):=Nat.mul_le_mul_right _ hlt
    have m2:(ob.length+1)*(fs+slotSum arrs arrs.length)≤nmax*(fs+slotSum arrs arrs.length):=Nat.mul_le_mul_right _ hlt
    rw[Nat.add_mul] at m1 m2
    simp only[cnt,scn,Bool.false_eq_true,if_false] at j1 j2 H3
    obtain⟨T1,h1,X1,e1,E1,A1,D1,-,st1⟩:=newO X hx hZ hown (hnew _ _ hmem) wi wz rfl (g:=mkF m pc L (st.map (cv (rho2 (arrs.length+1) x)))) rfl hd (by omega) (by omega)
    subst e1
    have hsz1:T1.heap.size=x.2.1+ob.length*(arrs.length+1)+1:=by
     have u:=X1.heapSize
     have lo:T.heap.size<T1.heap.size:=A1.lt
     omega
    have eA:T.heap.size=x.2.1+ob.length*(arrs.length+1):=by omega
    refine⟨T1,locs,_,_,X1,⟨⟨?_,?_⟩,⟨by omega,by omega⟩,j5,fun q=>absurd rfl q,j7,⟨fun o S hS=>(H1 o S hS).ext E1,fun _=>?_,?_,fun xs hxs=>?_⟩,N⟩,fun t kt=>st1 t (by
     show Steps p.tables e below (T1.setTop (mkF m (pc+3) L (.ref T.heap.size::st.map (cv (rho2 (arrs.length+1) x))))) t
     rw[eA];exact kt)⟩
    ·simp only[cnt,if_true];omega
    ·simp only[scn,if_true];omega
    ·refine⟨?_,hlt⟩
     rw[eA] at A1 D1
     refine⟨A1,fun n d hg=>?_,fun n d q hq=>?_,fun j ty ln hj=>absurd hj (Nat.not_lt_zero _),hsz1⟩
     ·obtain⟨lg,rfl,-⟩:=M.2.1 n d hg
      exact⟨_,D1 lg (ty:= .int) (by decide)⟩
     ·obtain⟨l1,-,k3,k4,t1,p1⟩:=K.2.1 n d q hq
      by_cases q3:q%3=2
      ·rw[if_pos q3,if_neg (Nat.not_lt_zero _)]
       exact⟨_,D1 l1 p1⟩
      ·rw[if_neg q3]
       have h01:q%3=0∨q%3=1:=by omega
       rcases h01 with h0 | h1
       ·obtain rfl:=k3 h0
        exact D1 l1 (ty:= .int) (by decide)
       ·obtain rfl:=k4 h1
        exact D1 l1 (ty:= .boolean) (by decide)
    ·simp only[cnt,if_true];omega
    ·obtain⟨a1,a2,cell,A,r⟩:=H4 xs hxs
     exact⟨a1,a2,cell,A.ext E1,r⟩
   ·cases hm
  ·cases hm
 ·-- the maker
  rename_i k
  obtain⟨idx,rfl,hmem⟩:=canon_spec hc
  obtain rfl:len=3:=by simpa [lenOK,ilen] using ho
  unfold ct at hm
  split at hm
  ·rename_i ob
   split at hm
   ·rename_i as r rest ht
    split at hm
    ·rename_i hb
     obtain⟨⟨rfl,rfl⟩,hok,hct',hlen⟩:=hb
     obtain⟨q,hq,hm⟩:=Option.map_eq_some_iff.mp hm
     cases hm
     obtain⟨c0,s0,hRc,hRs⟩:=j5 rfl
     obtain⟨n,hit⟩:=hf1 _ _ hq
     obtain⟨qs,q1,q2,q3⟩:=takeA_spec ht
     have q2':as=qs:=by simpa using q2
     subst q2'
     obtain⟨Pq,hlt⟩:=H2 rfl
     simp only[] at Pq hlt
     have m1:(ob.length+1)*(arrs.length+1)≤nmax*(arrs.length+1):=Nat.mul_le_mul_right _ hlt
     have m2:(ob.length+1)*(fs+slotSum arrs arrs.length)≤nmax*(fs+slotSum arrs arrs.length):=Nat.mul_le_mul_right _ hlt
     rw[Nat.add_mul] at m1 m2
     have hM:=met0 (hW n) hpn hcls hnm0 hrt0 K M hCs hcov hp d0 d1 w1 w2 w3 hfr hlw hok hlen hZ00 hZ0 hit Pq (n0:=x.2.1) (Nat.le_add_right _ _) []
     obtain⟨kp,hcd⟩:=hcd
     have hroom:Room2 mi1 mi2 wm2 0 0:=hR0 _ _ _ _ _ hcd
     have hB:=backOf (W:=wm2 0) (rm:={ frames:=(mi1 0).2.2.2.1,cells:=arrs.length,slots:=slotSum arrs arrs.length,locals:=(mi1 0).2.2.2.2 }) (Q:=fun v h' L=>v=none∧Fr x.2.1 L∧Keep T.heap h' (rng arrs (x.2.1+ob.length*(arrs.length+1)))∧ObjAt C fds arrs Z h' (x.2.1+ob.length*(arrs.length+1)) (G q.2)) hM hZ hct.2.2 (by rw[hcls];exact wz) (Nat.le_trans hroom.1 f8) (Nat.le_trans hroom.2 f9) (R:=R) (p:=p) (e:=e) (below:=below) (s:=s) (args:=args) (len:=3)
     simp only[cnt,scn,if_true] at j1 j2 H3
     obtain⟨v,vm₁,⟨T',L',c',s'⟩,-,X',⟨Lc,⟨hv0,hN,hK,hO⟩,l1,l2,l3⟩,st1⟩:=X.specialBack hx (y:=(mi1 0).1) hnm0 hown (mvT hZ (hct.1 _ _ hmem)) (mvT hZ hct.2.1) (mvT hZ hct.2.2) (by rw[hcls];exact hC) hB (g:=mkF m pc L (st.map (cv (rho2 (arrs.length+1) x)))) rfl hs (Steps.refl _) (a:=x.2.1+ob.length*(arrs.length+1)) (argsL:=as) (rest:=st'.map (cv (rho2 (arrs.length+1) x))) (lenOf hps0 (by omega))
      (by show st.map _=_;rw[q3,List.map_append,List.map_reverse,(okn_spec hok).2];rfl) (by show 2*0+_≤_;rw[hcat];omega) hd (fun vm _=>⟨rfl,rfl,by show cells+arrs.length≤R.cells;omega,by show slots+slotSum arrs arrs.length≤R.slots;omega⟩)
     dsimp only [Pt.U,Pt.locs,Pt.cells,Pt.slots] at X' l1 l2 l3 st1 hN hK hO
     subst l1 l2 l3 hv0
     have hsz1:T'.heap.size=x.2.1+(ob.length+1)*(arrs.length+1):=by
      have u:=X'.heapSize
      have lo:x.2.1+ob.length*(arrs.length+1)+arrs.length<T'.heap.size:=by
       by_cases har:arrs.length=0
       ·have:=hO.1.lt
        rw[har] at this ⊢
        exact this
       ·have hk1:arrs.length-1<arrs.length:=by omega
        obtain⟨⟨ty,ln⟩,hq'⟩:∃q,arrs[arrs.length-1]? = some q:=⟨arrs[arrs.length-1],by simp[hk1]⟩
        obtain⟨cell,A,-⟩:=hO.2.2 _ ty ln hq'
        have lt1:x.2.1+ob.length*(arrs.length+1)+(arrs.length-1+1)<T'.heap.size:=A.lt
        omega
      rw[Nat.add_mul]
      omega
     refine⟨T',_,_,_,X',⟨⟨?_,?_⟩,⟨?_,?_⟩,j5,fun q=>absurd rfl q,j7,⟨fun o S hS=>?_,fun q=>(by cases q),?_,fun xs hxs=>?_⟩,N.app hN⟩,fun t kt=>st1.trans kt⟩
     ·show cells+arrs.length+x.2.2.1=_
      simp only[cnt,List.length_append,List.length_singleton,Bool.false_eq_true,if_false,Nat.add_mul];omega
     ·show slots+slotSum arrs arrs.length+x.2.2.2=_
      simp only[scn,List.length_append,List.length_singleton,Bool.false_eq_true,if_false,Nat.add_mul];omega
     ·show cells+arrs.length≤_;omega
     ·show slots+slotSum arrs arrs.length≤_;omega
     ·simp only[] at hS
      by_cases q:o<ob.length
      ·rw[List.getElem?_append_left q] at hS
       exact (H1 o S hS).keep hK fun r hr=>rng_far (by omega) hr
      ·have:o=ob.length:=by
        have:=(List.getElem?_eq_some_iff.mp hS).1
        simp at this;omega
       subst this
       simp at hS
       subst hS
       exact hO
     ·simp only[cnt,List.length_append,List.length_singleton,Bool.false_eq_true,if_false];exact hsz1
     ·obtain⟨a1,a2,cell,A,r⟩:=H4 xs hxs
      exact⟨a1,a2,cell,⟨hK.2.1 _ _ A.1 (rng_low a1),A.2⟩,r⟩
    ·cases hm
   ·cases hm
  ·cases hm
 ·-- a method of the object
  rename_i k
  obtain⟨idx,rfl,hmem⟩:=canon_inv hc
  obtain rfl:len=3:=by simpa [lenOK,ilen] using ho
  unfold vt at hm
  split at hm
  ·rename_i ob
   split at hm
   ·rename_i as o rest ht
    split at hm
    ·rename_i S hS
     split at hm
     ·rename_i hb
      obtain⟨hok,hct',hlen⟩:=hb
      obtain⟨q,hq,hm⟩:=Option.map_eq_some_iff.mp hm
      cases hm
      obtain⟨n,hit⟩:=hf1 _ _ hq
      obtain⟨qs,q1,q2,q3⟩:=takeA_spec ht
      have q2':as=qs:=by simpa using q2
      subst q2'
      obtain⟨hv,ps,hps,hna⟩:=hvt k idx hmem
      have hv:=hv idx hmem
      have O:=H1 o S hS
      have hM:=met1 (ws:=[]) (hW n) hpn hv.1 hok hlen hit O (n0:=x.2.1) (Nat.le_add_right _ _)
      obtain⟨kp,hcd⟩:=hcd
      have hroom:Room2 mi1 mi2 wm2 mm k:=hR _ _ _ _ _ hcd
      obtain⟨v,T',Lc,X',⟨e1,e0,e2,e3,e4⟩,G'⟩:=callV X hx hZ hown hv wi wz hC hps (as':=as) (by omega) (Q:=fun v h' L=>v=q.1∧(∀ρ',q.1.map (cv ρ')=q.1)∧Fr x.2.1 L∧Keep T.heap h' (rng arrs (x.2.1+o*(arrs.length+1)))∧ObjAt C fds arrs Z h' (x.2.1+o*(arrs.length+1)) (G q.2)) hM rfl O.1 (W:=wm2 mm) (rm:={ frames:=(mi1 k).2.2.2.1,cells:=0,slots:=0,locals:=(mi1 k).2.2.2.2 }) (Nat.le_trans hroom.1 f8) (Nat.le_trans hroom.2 f9) (show cells+0≤R.cells from j3) (show slots+0≤R.slots from j4) hs (rest:=rest.map (cv (rho2 (arrs.length+1) x))) (st:=st.map (cv (rho2 (arrs.length+1) x)))
       (by rw[q3,List.map_append,List.map_reverse,(okn_spec hok).2];rfl) (by rw[hcat];exact hct') hd
      subst e1
      have hol:o<ob.length:=(List.getElem?_eq_some_iff.mp hS).1
      have hsz1:T'.heap.size=T.heap.size:=by
       have u:=X'.heapSize
       have lo:=e3.1
       simp only[Nat.add_zero] at u
       omega
      refine⟨T',_,_,_,X',⟨⟨?_,?_⟩,⟨j3,j4⟩,j5,j6,j7,⟨fun o' S' hS'=>?_,fun q=>(by cases q),?_,fun xs hxs=>?_⟩,N.app e2⟩,?_⟩
      ·simpa [cnt] using j1
      ·simpa [scn] using j2
      ·simp only[] at hS'
       by_cases q':o=o'
       ·subst q'
        rw[List.getElem?_set_self hol] at hS'
        cases hS'
        exact e4
       ·rw[List.getElem?_set_ne q'] at hS'
        exact (H1 o' S' hS').keep e3 fun r hr=>rng_far (Ne.symm q') hr
      ·rw[hsz1,H3];simp[cnt]
      ·obtain⟨a1,a2,cell,A,r⟩:=H4 xs hxs
       exact⟨a1,a2,cell,⟨e3.2.1 _ _ A.1 (rng_low a1),A.2⟩,r⟩
      ·have:(q.1.toList++rest).map (cv (rho2 (arrs.length+1) x))=q.1.toList++rest.map (cv (rho2 (arrs.length+1) x)):=by
        rw[List.map_append]
        congr 1
        have:=e0 (rho2 (arrs.length+1) x)
        cases hr:q.1 with
        |none=>rfl
        |some w=>rw[hr] at this;simpa using this
       rw[this]
       exact G'
     ·cases hm
    ·cases hm
   ·cases hm
  ·cases hm
 ·-- the script's places
  obtain rfl:=canon_heapy rfl hc
  obtain rfl:len=1:=by simpa [lenOK,ilen] using ho
  split at hm
  ·rename_i xs
   unfold sl at hm
   split at hm
   ·rename_i j r
    split at hm
    ·rename_i hb
     cases hm
     obtain⟨a1,a2,cell,A,z,H⟩:=H4 xs rfl
     have hin:=inb_spec hb
     have hv:=H j.toNatClampNeg (Nat.lt_of_not_le fun q=>hin (Or.inr q))
     rw[←z] at hin
     exact⟨T,locs,cells,slots,X,⟨⟨j1,j2⟩,⟨j3,j4⟩,j5,j6,j7,⟨H1,H2,H3,H4⟩,N⟩,fun t kt=>X.iaload hx A.1 (State.isArrayOf_alike hZ.alike A.2.1) A.2.2 hin hv (g:=mkF m pc L (.int j :: .ref x.1::r.map (cv (rho2 (arrs.length+1) x)))) rfl rfl hd t kt⟩
    ·cases hm
   ·cases hm
  ·cases hm
 ·-- the script's length
  obtain rfl:=canon_heapy rfl hc
  obtain rfl:len=1:=by simpa [lenOK,ilen] using ho
  split at hm
  ·rename_i xs
   unfold sn at hm
   split at hm
   ·rename_i r
    cases hm
    obtain⟨a1,a2,cell,A,z,H⟩:=H4 xs rfl
    refine⟨T,locs,cells,slots,X,⟨⟨j1,j2⟩,⟨j3,j4⟩,j5,j6,j7,⟨H1,H2,H3,H4⟩,N⟩,fun t kt=>X.arraylength hx A.1 (State.isArrayOf_alike hZ.alike A.2.1) (g:=mkF m pc L (.ref x.1::r.map (cv (rho2 (arrs.length+1) x)))) rfl rfl hd t ?_⟩
    rw[z]
    exact kt
   ·cases hm
  ·cases hm
 ·cases hm
def StaOK(Tb2:Tabs)(Z:State)(a0:Array Value)(mi2:MI)(rt2:Nat→Option FieldType)(own:String)(na2:Nat→Nat):Prop:=
 ∀idx k,(idx,k)∈Tb2.2.2.1→(mi2 k).1.cls=own∧(Cond.methodLink own idx (mi2 k).1).before a0 Z=true∧(Cond.static (mi2 k).1).before a0 Z=true∧(Cond.initialized own).before a0 Z=true∧(Cond.code (mi2 k).1 (mi2 k).2.1 (mi2 k).2.2.1 (rt2 k)).before a0 Z=true∧∃ps,parseMethodDescriptor (mi2 k).1.desc=some ⟨ps,rt2 k⟩∧ps.length=na2 k
def RoomS(code2:Codes)(mi2:MI)(wm2:Nat→Nat):Prop:=∀mm pc k pn kp,code2 mm pc=some (.invokestatic k,pn,kp)→(mi2 k).2.2.2.1+1≤(mi2 mm).2.2.2.1∧wm2 mm+((mi2 k).2.2.1+11)+(mi2 k).2.2.2.2≤(mi2 mm).2.2.2.2
set_option maxHeartbeats 1000000 in
theorem met2{code2:Codes}{mop:Mop (W2 σ)}{cop:Cop}{n:Nat}(hW:Walks code2 rt2 mop cop mi2 own Z l (rho2 (arrs.length+1)) (J2 C gds fds arrs Z G fs nmax sc) n)(hpn:plainName own=true){k:Nat}(hk:k≠0)(hcls:(mi2 k).1.cls=own){as:List Value}(hok:okv as=true)(hlen:(entL as).length≤(mi2 k).2.2.1)
  {w:W2 σ} {r:Res (W2 σ)} (hit:iter (plan code2 rt2 mop cop) n (k,0,entL as,[],w)=some r) {h:Heap} {sa n0:Nat} (H:Heap2 C gds fds arrs Z G nmax sc sa n0 w h) (ws:List Jvm.Cond) (x:I2) (hx1:x.1=sa) (hx2:x.2.1=n0) :
  MetFree l (mi2 k).1 (head1 (Cond.code (mi2 k).1 (mi2 k).2.1 (mi2 k).2.2.1 (rt2 k)::ws) ({ frames:=(mi2 k).2.2.2.1,cells:=0,slots:=0,locals:=(mi2 k).2.2.2.2 }:Room))
   (fun A U=>A=(as.map (cv (rho2 (arrs.length+1) x))).toArray∧Z.Warmed39 U.vm∧U.heap=h) (fun _ _ _ _ _=>True)
   (fun _ U o U'=>∃v L,o = .returned v∧(v=r.1∧(∀ρ',r.1.map (cv ρ')=r.1)∧Fr n0 L∧Heap2 C gds fds arrs Z G nmax sc sa n0 r.2 U'.heap∧cnt (arrs.length+1) r.2=cnt (arrs.length+1) w∧scn fs (slotSum arrs arrs.length) r.2=scn fs (slotSum arrs arrs.length) w)∧FrameEnd U o U' L 0 0):=by
 refine MetFree.of_bodySF (plainFor_of_name (by rw[hcls];exact hpn)) hisR ?_
 intro p e s m args below meth c s₁ Bd hml0 hP hK
 obtain⟨rfl,hZ,hh⟩:=hP
 subst hx1 hx2
 have hown:s.vm.findClass own=some m.cls:=by rw[←hcls];exact findClass_of_methodNamed Bd.named
 have hnm:=(name_of_methodNamed Bd.named Bd.method).1
 have X0:=Stand.of_body Bd
 have e0:s₁.heap=h:=by rw[←hh,Bd.state];rfl
 have ρe:rho2 (arrs.length+1) (x.1,x.2.1,cnt (arrs.length+1) w,scn fs (slotSum arrs arrs.length) w)=rho2 (arrs.length+1) x:=by
  funext r;cases r<;>rfl
 obtain⟨L,q1,q2,q3,q4⟩:=entry_rel (rho2 (arrs.length+1) x) (vs:=as) hok hlen
 obtain⟨T',L',k',n',X',⟨⟨j1,j2⟩,-,-,j6,j7,jH,jN⟩,⟨ok1,ok2⟩,st⟩:=hW (x.1,x.2.1,cnt (arrs.length+1) w,scn fs (slotSum arrs arrs.length) w) p e _ s m _ below meth c k 0 _ [] w r hit s₁ [] 0 0 L X0 ⟨Bd.exec,hZ,hown,Bd.bytes,hml0,Bd.returns,hnm,Nat.le_refl _,Nat.le_refl _⟩
  ⟨⟨Nat.zero_add _,Nat.zero_add _⟩,⟨Nat.le_refl _,Nat.le_refl _⟩,fun q=>absurd q hk,fun _=>⟨rfl,rfl⟩,by rw[hh];exact H.2.2.1,by rw[e0];exact H,Fr.nil _⟩ (by rw[ρe];exact q2) q3 (by rw[q4,hml0])
 obtain⟨fs',hr,hrun,hended,hWm,hsame⟩:=X'.leave (v:=r.1) ok1
 obtain⟨k0,n00⟩:=j6 hk
 subst k0 n00
 refine⟨_,_,?_,hrun,hended,_,_,rfl,⟨rfl,ok2,jN,jH,by simpa using j1.symm,by simpa using j2.symm⟩,⟨_,rfl⟩,hWm,hsame⟩
 have:=st fs' hr
 rw[q1 m]
 exact this
set_option maxHeartbeats 1000000 in
theorem cop2_ok{code2:Codes}{mop:Mop (W2 σ)}(hpn:plainName own=true)(hC:own ≠ "java/lang/invoke/MethodHandle" ∧ own ≠ "java/lang/invoke/VarHandle")(hS:StaOK Tb2 Z a0 mi2 rt2 own na2)(hR:RoomS code2 mi2 wm2) :
  CopOK code2 rt2 mop (cop2 na2 (fun k=>(mi2 k).2.2.1) wm2) Tb2 mi2 own Z l (rho2 (arrs.length+1)) (J2 C gds fds arrs Z G fs nmax sc):=by
 intro n hW x p e R s m args below meth c mm pc len i0 i st q w r T locs cells slots L X F hJ hs hd ho hc hne hq hit
 obtain⟨hx,hZ,hown,f4,f5,f6,f7,f8,f9⟩:=F
 obtain⟨⟨j1,j2⟩,⟨j3,j4⟩,j5,j6,j7,H,N⟩:=hJ
 unfold cop2 at hq
 split at hq
 ·rename_i k
  split at hq
  ·rename_i as r0 ht
   split at hq
   ·rename_i hb
    cases hq
    obtain⟨hk,hok,hcat',hlen⟩:=hb
    obtain⟨idx,rfl,hmem⟩:=canon_stat hc
    obtain rfl:len=3:=by simpa [lenOK,ilen] using ho
    obtain⟨g1,g2,g3,g4,g5,ps,hps,hna⟩:=hS idx k hmem
    obtain⟨qs,q1,q2,q3⟩:=takeA_spec ht
    have q2':as=qs:=by simpa using q2
    subst q2'
    obtain⟨kp,hcd⟩:=hne
    have hroom:=hR mm pc k _ kp hcd
    have hM:=met2 (hW:=hW) hpn hk g1 hok hlen hit H [] x rfl rfl
    have hB:=backOf (W:=wm2 mm) (rm:={ frames:=(mi2 k).2.2.2.1,cells:=0,slots:=0,locals:=(mi2 k).2.2.2.2 }) (Q:=fun v h' L=>v=r.1∧(∀ρ',r.1.map (cv ρ')=r.1)∧Fr x.2.1 L∧Heap2 C gds fds arrs Z G nmax sc x.1 x.2.1 r.2 h'∧cnt (arrs.length+1) r.2=cnt (arrs.length+1) w∧scn fs (slotSum arrs arrs.length) r.2=scn fs (slotSum arrs arrs.length) w) hM hZ g5 (by rw[g1];exact g4) (Nat.le_trans hroom.1 f8) (Nat.le_trans hroom.2 f9) (R:=R) (p:=p) (e:=e) (below:=below) (s:=s) (args:=args) (len:=3)
    have hcat:((r0.map (cv (rho2 (arrs.length+1) x))).map fun v=>v.category).sum=cats r0:=by
     have:(r0.map (cv (rho2 (arrs.length+1) x))).map (fun v=>v.category)=r0.map fun v=>v.category:=by
      rw[List.map_map];apply List.map_congr_left;intro v _;cases v<;>rfl
     rw[this];rfl
    obtain⟨v,vm₁,⟨T',L',c',s'⟩,-,X',⟨Lc,⟨hv0,ok2,hN,hH,z1,z2⟩,l1,l2,l3⟩,st1⟩:=Jvm.LawKit.callS X hx (y:=(mi2 k).1) hown (mvT hZ g2) (mvT hZ g3) (by rw[g1];exact mvT hZ g4) (mvT hZ g5) (by rw[g1];exact hC) hB (g:=mkF m pc L (st.map (cv (rho2 (arrs.length+1) x)))) rfl hs (argsL:=as.map (cv (rho2 (arrs.length+1) x))) (rest:=r0.map (cv (rho2 (arrs.length+1) x))) (lenOf hps (by simp;omega))
     (by show st.map _=_;rw[q3,List.map_append,List.map_reverse]) (by show 2*0+_≤_;rw[hcat];omega) hd (fun vm _=>⟨rfl,rfl,by simpa using j3,by simpa using j4⟩)
    dsimp only [Pt.U,Pt.locs,Pt.cells,Pt.slots] at X' l1 l2 l3 st1 hN hH
    subst l1 l2 l3 hv0
    refine⟨T',_,_,_,X',⟨⟨by rw[z1];exact j1,by rw[z2];exact j2⟩,⟨j3,j4⟩,j5,j6,j7,hH,N.app hN⟩,?_⟩
    have:(r.1.toList++r0).map (cv (rho2 (arrs.length+1) x))=r.1.toList++r0.map (cv (rho2 (arrs.length+1) x)):=by
     rw[List.map_append]
     congr 1
     have:=ok2 (rho2 (arrs.length+1) x)
     cases hr:r.1 with
     |none=>rfl
     |some w=>rw[hr] at this;simpa using this
    rw[this]
    exact fun t kt=>st1 t kt
   ·cases hq
  ·cases hq
 ·cases hq
end L2
theorem ite2{β:Type}{p:Prop}[Decidable p]{a b a' b':β}(h1:a=a')(h2:b=b'):(if p then a else b)=if p then a' else b':=by rw[h1,h2]
theorem iteH{β:Type}{p:Prop}[Decidable p]{a b a':β}(h1:p→a=a'):(if p then a else b)=if p then a' else b:=by
 by_cases h:p
 ·rw[if_pos h,if_pos h,h1 h]
 ·rw[if_neg h,if_neg h]
namespace F
variable {τ:Type} {code:Codes} {rt:Nat→Option FieldType} {mop:Mop τ} {cop:Cop} {f:Cfg τ→Option (Res τ)} {m pc pn:Nat} {kp:Option Nat} {ls st:List Value} {S:τ}
theorem head(hf:∀c,f c=run (plan code rt mop cop) f c){i:Instr}{k:Nat}(h:code m pc=some (i,pn,some k)):f (m,pc,ls,st,S)=f (m,pc,ls.take k,st,S):=by
 rw[hf,hf (m,pc,ls.take k,st,S)]
 simp only[run,plan,h,tk,List.take_take,Nat.min_self]
theorem iadd(hf:∀c,f c=run (plan code rt mop cop) f c){x y:Int32}(h:code m pc=some (.iadd,pn,kp))(hk:tk kp ls=ls):f (m,pc,ls,.int y :: .int x::st,S)=f (m,pn,ls,.int (x+y)::st,S):=by
 rw[hf]
 simp only[run,plan,h,hk,rest,retV,loc,alu,ii,iz,ll,lz,li,lc,i1,l1,pop1,dup1,dup2',Option.map_some]
theorem isub(hf:∀c,f c=run (plan code rt mop cop) f c){x y:Int32}(h:code m pc=some (.isub,pn,kp))(hk:tk kp ls=ls):f (m,pc,ls,.int y :: .int x::st,S)=f (m,pn,ls,.int (x-y)::st,S):=by
 rw[hf]
 simp only[run,plan,h,hk,rest,retV,loc,alu,ii,iz,ll,lz,li,lc,i1,l1,pop1,dup1,dup2',Option.map_some]
theorem imul(hf:∀c,f c=run (plan code rt mop cop) f c){x y:Int32}(h:code m pc=some (.imul,pn,kp))(hk:tk kp ls=ls):f (m,pc,ls,.int y :: .int x::st,S)=f (m,pn,ls,.int (x*y)::st,S):=by
 rw[hf]
 simp only[run,plan,h,hk,rest,retV,loc,alu,ii,iz,ll,lz,li,lc,i1,l1,pop1,dup1,dup2',Option.map_some]
theorem iand(hf:∀c,f c=run (plan code rt mop cop) f c){x y:Int32}(h:code m pc=some (.iand,pn,kp))(hk:tk kp ls=ls):f (m,pc,ls,.int y :: .int x::st,S)=f (m,pn,ls,.int (x&&&y)::st,S):=by
 rw[hf]
 simp only[run,plan,h,hk,rest,retV,loc,alu,ii,iz,ll,lz,li,lc,i1,l1,pop1,dup1,dup2',Option.map_some]
theorem ior(hf:∀c,f c=run (plan code rt mop cop) f c){x y:Int32}(h:code m pc=some (.ior,pn,kp))(hk:tk kp ls=ls):f (m,pc,ls,.int y :: .int x::st,S)=f (m,pn,ls,.int (x|||y)::st,S):=by
 rw[hf]
 simp only[run,plan,h,hk,rest,retV,loc,alu,ii,iz,ll,lz,li,lc,i1,l1,pop1,dup1,dup2',Option.map_some]
theorem ixor(hf:∀c,f c=run (plan code rt mop cop) f c){x y:Int32}(h:code m pc=some (.ixor,pn,kp))(hk:tk kp ls=ls):f (m,pc,ls,.int y :: .int x::st,S)=f (m,pn,ls,.int (x^^^y)::st,S):=by
 rw[hf]
 simp only[run,plan,h,hk,rest,retV,loc,alu,ii,iz,ll,lz,li,lc,i1,l1,pop1,dup1,dup2',Option.map_some]
theorem ishl(hf:∀c,f c=run (plan code rt mop cop) f c){x y:Int32}(h:code m pc=some (.ishl,pn,kp))(hk:tk kp ls=ls):f (m,pc,ls,.int y :: .int x::st,S)=f (m,pn,ls,.int (x<<<(y&&&31))::st,S):=by
 rw[hf]
 simp only[run,plan,h,hk,rest,retV,loc,alu,ii,iz,ll,lz,li,lc,i1,l1,pop1,dup1,dup2',Option.map_some]
theorem ishr(hf:∀c,f c=run (plan code rt mop cop) f c){x y:Int32}(h:code m pc=some (.ishr,pn,kp))(hk:tk kp ls=ls):f (m,pc,ls,.int y :: .int x::st,S)=f (m,pn,ls,.int (x>>>(y&&&31))::st,S):=by
 rw[hf]
 simp only[run,plan,h,hk,rest,retV,loc,alu,ii,iz,ll,lz,li,lc,i1,l1,pop1,dup1,dup2',Option.map_some]
theorem iushr(hf:∀c,f c=run (plan code rt mop cop) f c){x y:Int32}(h:code m pc=some (.iushr,pn,kp))(hk:tk kp ls=ls):f (m,pc,ls,.int y :: .int x::st,S)=f (m,pn,ls,.int (XT.ushr x y)::st,S):=by
 rw[hf]
 simp only[run,plan,h,hk,rest,retV,loc,alu,ii,iz,ll,lz,li,lc,i1,l1,pop1,dup1,dup2',Option.map_some]
theorem idiv(hf:∀c,f c=run (plan code rt mop cop) f c){x y:Int32}(h:code m pc=some (.idiv,pn,kp))(hk:tk kp ls=ls)(hy:y≠0):f (m,pc,ls,.int y :: .int x::st,S)=f (m,pn,ls,.int (x/y)::st,S):=by
 rw[hf]
 simp only[run,plan,h,hk,rest,retV,loc,alu,ii,iz,ll,lz,li,lc,i1,l1,pop1,dup1,dup2',Option.map_some,hy,if_false]
theorem irem(hf:∀c,f c=run (plan code rt mop cop) f c){x y:Int32}(h:code m pc=some (.irem,pn,kp))(hk:tk kp ls=ls)(hy:y≠0):f (m,pc,ls,.int y :: .int x::st,S)=f (m,pn,ls,.int (x%y)::st,S):=by
 rw[hf]
 simp only[run,plan,h,hk,rest,retV,loc,alu,ii,iz,ll,lz,li,lc,i1,l1,pop1,dup1,dup2',Option.map_some,hy,if_false]
theorem lrem(hf:∀c,f c=run (plan code rt mop cop) f c){x y:Int64}(h:code m pc=some (.lrem,pn,kp))(hk:tk kp ls=ls)(hy:y≠0):f (m,pc,ls,.long y :: .long x::st,S)=f (m,pn,ls,.long (x%y)::st,S):=by
 rw[hf]
 simp only[run,plan,h,hk,rest,retV,loc,alu,ii,iz,ll,lz,li,lc,i1,l1,pop1,dup1,dup2',Option.map_some,hy,if_false]
theorem ladd(hf:∀c,f c=run (plan code rt mop cop) f c){x y:Int64}(h:code m pc=some (.ladd,pn,kp))(hk:tk kp ls=ls):f (m,pc,ls,.long y :: .long x::st,S)=f (m,pn,ls,.long (x+y)::st,S):=by
 rw[hf]
 simp only[run,plan,h,hk,rest,retV,loc,alu,ii,iz,ll,lz,li,lc,i1,l1,pop1,dup1,dup2',Option.map_some]
theorem lsub(hf:∀c,f c=run (plan code rt mop cop) f c){x y:Int64}(h:code m pc=some (.lsub,pn,kp))(hk:tk kp ls=ls):f (m,pc,ls,.long y :: .long x::st,S)=f (m,pn,ls,.long (x-y)::st,S):=by
 rw[hf]
 simp only[run,plan,h,hk,rest,retV,loc,alu,ii,iz,ll,lz,li,lc,i1,l1,pop1,dup1,dup2',Option.map_some]
theorem lmul(hf:∀c,f c=run (plan code rt mop cop) f c){x y:Int64}(h:code m pc=some (.lmul,pn,kp))(hk:tk kp ls=ls):f (m,pc,ls,.long y :: .long x::st,S)=f (m,pn,ls,.long (x*y)::st,S):=by
 rw[hf]
 simp only[run,plan,h,hk,rest,retV,loc,alu,ii,iz,ll,lz,li,lc,i1,l1,pop1,dup1,dup2',Option.map_some]
theorem land(hf:∀c,f c=run (plan code rt mop cop) f c){x y:Int64}(h:code m pc=some (.land,pn,kp))(hk:tk kp ls=ls):f (m,pc,ls,.long y :: .long x::st,S)=f (m,pn,ls,.long (x&&&y)::st,S):=by
 rw[hf]
 simp only[run,plan,h,hk,rest,retV,loc,alu,ii,iz,ll,lz,li,lc,i1,l1,pop1,dup1,dup2',Option.map_some]
theorem lor(hf:∀c,f c=run (plan code rt mop cop) f c){x y:Int64}(h:code m pc=some (.lor,pn,kp))(hk:tk kp ls=ls):f (m,pc,ls,.long y :: .long x::st,S)=f (m,pn,ls,.long (x|||y)::st,S):=by
 rw[hf]
 simp only[run,plan,h,hk,rest,retV,loc,alu,ii,iz,ll,lz,li,lc,i1,l1,pop1,dup1,dup2',Option.map_some]
theorem lxor(hf:∀c,f c=run (plan code rt mop cop) f c){x y:Int64}(h:code m pc=some (.lxor,pn,kp))(hk:tk kp ls=ls):f (m,pc,ls,.long y :: .long x::st,S)=f (m,pn,ls,.long (x^^^y)::st,S):=by
 rw[hf]
 simp only[run,plan,h,hk,rest,retV,loc,alu,ii,iz,ll,lz,li,lc,i1,l1,pop1,dup1,dup2',Option.map_some]
theorem lshl(hf:∀c,f c=run (plan code rt mop cop) f c){x:Int64}{y:Int32}(h:code m pc=some (.lshl,pn,kp))(hk:tk kp ls=ls):f (m,pc,ls,.int y :: .long x::st,S)=f (m,pn,ls,.long (x<<<(y.toInt64&&&63))::st,S):=by
 rw[hf]
 simp only[run,plan,h,hk,rest,retV,loc,alu,ii,iz,ll,lz,li,lc,i1,l1,pop1,dup1,dup2',Option.map_some]
theorem lushr(hf:∀c,f c=run (plan code rt mop cop) f c){x:Int64}{y:Int32}(h:code m pc=some (.lushr,pn,kp))(hk:tk kp ls=ls):f (m,pc,ls,.int y :: .long x::st,S)=f (m,pn,ls,.long (XT.ushrL x y)::st,S):=by
 rw[hf]
 simp only[run,plan,h,hk,rest,retV,loc,alu,ii,iz,ll,lz,li,lc,i1,l1,pop1,dup1,dup2',Option.map_some]
theorem lcmp(hf:∀c,f c=run (plan code rt mop cop) f c){x y:Int64}(h:code m pc=some (.lcmp,pn,kp))(hk:tk kp ls=ls):f (m,pc,ls,.long y :: .long x::st,S)=f (m,pn,ls,.int (XT.cmpL x y)::st,S):=by
 rw[hf]
 simp only[run,plan,h,hk,rest,retV,loc,alu,ii,iz,ll,lz,li,lc,i1,l1,pop1,dup1,dup2',Option.map_some]
theorem ineg(hf:∀c,f c=run (plan code rt mop cop) f c){x:Int32}(h:code m pc=some (.ineg,pn,kp))(hk:tk kp ls=ls):f (m,pc,ls,.int x::st,S)=f (m,pn,ls,.int (-x)::st,S):=by
 rw[hf]
 simp only[run,plan,h,hk,rest,retV,loc,alu,ii,iz,ll,lz,li,lc,i1,l1,pop1,dup1,dup2',Option.map_some]
theorem i2l(hf:∀c,f c=run (plan code rt mop cop) f c){x:Int32}(h:code m pc=some (.i2l,pn,kp))(hk:tk kp ls=ls):f (m,pc,ls,.int x::st,S)=f (m,pn,ls,.long x.toInt64::st,S):=by
 rw[hf]
 simp only[run,plan,h,hk,rest,retV,loc,alu,ii,iz,ll,lz,li,lc,i1,l1,pop1,dup1,dup2',Option.map_some]
theorem l2i(hf:∀c,f c=run (plan code rt mop cop) f c){x:Int64}(h:code m pc=some (.l2i,pn,kp))(hk:tk kp ls=ls):f (m,pc,ls,.long x::st,S)=f (m,pn,ls,.int x.toInt32::st,S):=by
 rw[hf]
 simp only[run,plan,h,hk,rest,retV,loc,alu,ii,iz,ll,lz,li,lc,i1,l1,pop1,dup1,dup2',Option.map_some]
theorem i2b(hf:∀c,f c=run (plan code rt mop cop) f c){x:Int32}(h:code m pc=some (.i2b,pn,kp))(hk:tk kp ls=ls):f (m,pc,ls,.int x::st,S)=f (m,pn,ls,.int x.toInt8.toInt32::st,S):=by
 rw[hf]
 simp only[run,plan,h,hk,rest,retV,loc,alu,ii,iz,ll,lz,li,lc,i1,l1,pop1,dup1,dup2',Option.map_some]
theorem popI(hf:∀c,f c=run (plan code rt mop cop) f c){x:Int32}(h:code m pc=some (.pop,pn,kp))(hk:tk kp ls=ls):f (m,pc,ls,.int x::st,S)=f (m,pn,ls,st,S):=by
 rw[hf]
 simp only[run,plan,h,hk,rest,retV,loc,alu,ii,iz,ll,lz,li,lc,i1,l1,pop1,dup1,dup2',Option.map_some]
theorem dupA(hf:∀c,f c=run (plan code rt mop cop) f c){x:Nat}(h:code m pc=some (.dup,pn,kp))(hk:tk kp ls=ls):f (m,pc,ls,.ref x::st,S)=f (m,pn,ls,.ref x :: .ref x::st,S):=by
 rw[hf]
 simp only[run,plan,h,hk,rest,retV,loc,alu,ii,iz,ll,lz,li,lc,i1,l1,pop1,dup1,dup2',Option.map_some]
theorem iconst(hf:∀c,f c=run (plan code rt mop cop) f c){i:Int}{v:Int32}(h:code m pc=some (.iconst i,pn,kp))(hk:tk kp ls=ls)(hv:Int32.ofInt i=v):f (m,pc,ls,st,S)=f (m,pn,ls,.int v::st,S):=by
 rw[hf]
 simp only[run,plan,h,hk,rest,retV,loc,alu,ii,iz,ll,lz,li,lc,i1,l1,pop1,dup1,dup2',Option.map_some,hv]
theorem lconst(hf:∀c,f c=run (plan code rt mop cop) f c){i:Fin 2}{v:Int64}(h:code m pc=some (.lconst i,pn,kp))(hk:tk kp ls=ls)(hv:Int64.ofNat i=v):f (m,pc,ls,st,S)=f (m,pn,ls,.long v::st,S):=by
 rw[hf]
 simp only[run,plan,h,hk,rest,retV,loc,alu,ii,iz,ll,lz,li,lc,i1,l1,pop1,dup1,dup2',Option.map_some,hv]
theorem ldcJ(hf:∀c,f c=run (plan code rt mop cop) f c){i:Nat}{v:Int64}(h:code m pc=some (.ldc2_w i,pn,kp))(hk:tk kp ls=ls)(hv:Int64.ofNat i=v):f (m,pc,ls,st,S)=f (m,pn,ls,.long v::st,S):=by
 rw[hf]
 simp only[run,plan,h,hk,rest,retV,loc,alu,ii,iz,ll,lz,li,lc,i1,l1,pop1,dup1,dup2',Option.map_some,hv]
theorem iload(hf:∀c,f c=run (plan code rt mop cop) f c){k:Nat}{v:Int32}(h:code m pc=some (.iload k,pn,kp))(hk:tk kp ls=ls)(hl:ls[k]? = some (.int v)):f (m,pc,ls,st,S)=f (m,pn,ls,.int v::st,S):=by
 rw[hf]
 simp only[run,plan,h,hk,rest,retV,loc,ldI,ldA,ldL,stI',stA',stL',incI,Option.map_some,hl]
theorem aload(hf:∀c,f c=run (plan code rt mop cop) f c){k v:Nat}(h:code m pc=some (.aload k,pn,kp))(hk:tk kp ls=ls)(hl:ls[k]? = some (.ref v)):f (m,pc,ls,st,S)=f (m,pn,ls,.ref v::st,S):=by
 rw[hf]
 simp only[run,plan,h,hk,rest,retV,loc,ldI,ldA,ldL,stI',stA',stL',incI,Option.map_some,hl]
theorem lload(hf:∀c,f c=run (plan code rt mop cop) f c){k:Nat}{v:Int64}(h:code m pc=some (.lload k,pn,kp))(hk:tk kp ls=ls)(hl:ls[k]? = some (.long v)):f (m,pc,ls,st,S)=f (m,pn,ls,.long v::st,S):=by
 rw[hf]
 simp only[run,plan,h,hk,rest,retV,loc,ldI,ldA,ldL,stI',stA',stL',incI,Option.map_some,hl]
theorem istore(hf:∀c,f c=run (plan code rt mop cop) f c){k:Nat}{v:Int32}{l:List Value}(h:code m pc=some (.istore k,pn,kp))(hk:tk kp ls=ls)(hl:st1 ls k (.int v)=l):f (m,pc,ls,.int v::st,S)=f (m,pn,l,st,S):=by
 rw[hf]
 simp only[run,plan,h,hk,rest,retV,loc,ldI,ldA,ldL,stI',stA',stL',incI,Option.map_some,hl]
theorem astore(hf:∀c,f c=run (plan code rt mop cop) f c){k v:Nat}{l:List Value}(h:code m pc=some (.astore k,pn,kp))(hk:tk kp ls=ls)(hl:st1 ls k (.ref v)=l):f (m,pc,ls,.ref v::st,S)=f (m,pn,l,st,S):=by
 rw[hf]
 simp only[run,plan,h,hk,rest,retV,loc,ldI,ldA,ldL,stI',stA',stL',incI,Option.map_some,hl]
theorem lstore(hf:∀c,f c=run (plan code rt mop cop) f c){k:Nat}{v:Int64}{l:List Value}(h:code m pc=some (.lstore k,pn,kp))(hk:tk kp ls=ls)(hl:st2 ls k (.long v)=l):f (m,pc,ls,.long v::st,S)=f (m,pn,l,st,S):=by
 rw[hf]
 simp only[run,plan,h,hk,rest,retV,loc,ldI,ldA,ldL,stI',stA',stL',incI,Option.map_some,hl]
theorem iinc(hf:∀c,f c=run (plan code rt mop cop) f c){k:Nat}{c:Int}{v v':Int32}{l:List Value}(h:code m pc=some (.iinc k c,pn,kp))(hk:tk kp ls=ls)(hv:Int32.ofInt c=v')(hl0:ls[k]? = some (.int v))(hl:st1 ls k (.int (v+v'))=l):f (m,pc,ls,st,S)=f (m,pn,l,st,S):=by
 rw[hf]
 simp only[run,plan,h,hk,rest,retV,loc,ldI,ldA,ldL,stI',stA',stL',incI,Option.map_some,hl0,hv,hl]
theorem goto(hf:∀c,f c=run (plan code rt mop cop) f c){t:Nat}(h:code m pc=some (.goto (Int.ofNat t),pn,kp))(hk:tk kp ls=ls):f (m,pc,ls,st,S)=f (m,t,ls,st,S):=by
 rw[hf]
 simp only[run,plan,h,hk,Int.ofNat_eq_natCast,Int.toNat_natCast]
theorem ifeq(hf:∀c,f c=run (plan code rt mop cop) f c){t:Nat}{x:Int32}(h:code m pc=some (.ifCond .eq (Int.ofNat t),pn,kp))(hk:tk kp ls=ls):f (m,pc,ls,.int x::st,S)=if x=0 then f (m,t,ls,st,S) else f (m,pn,ls,st,S):=by
 rw[hf]
 simp only[run,plan,h,hk,pl1,Int.ofNat_eq_natCast,Int.toNat_natCast]
 exact cnd_map f _ _ _ _ _
theorem iceq(hf:∀c,f c=run (plan code rt mop cop) f c){t:Nat}{x y:Int32}(h:code m pc=some (.if_icmp .eq (Int.ofNat t),pn,kp))(hk:tk kp ls=ls):f (m,pc,ls,.int y :: .int x::st,S)=if x=y then f (m,t,ls,st,S) else f (m,pn,ls,st,S):=by
 rw[hf]
 simp only[run,plan,h,hk,pl2,Int.ofNat_eq_natCast,Int.toNat_natCast]
 exact cnd_map f _ _ _ _ _
theorem ifne(hf:∀c,f c=run (plan code rt mop cop) f c){t:Nat}{x:Int32}(h:code m pc=some (.ifCond .ne (Int.ofNat t),pn,kp))(hk:tk kp ls=ls):f (m,pc,ls,.int x::st,S)=if x=0 then f (m,pn,ls,st,S) else f (m,t,ls,st,S):=by
 rw[hf]
 simp only[run,plan,h,hk,pl1,Int.ofNat_eq_natCast,Int.toNat_natCast]
 exact cnd_map f _ _ _ _ _
theorem icne(hf:∀c,f c=run (plan code rt mop cop) f c){t:Nat}{x y:Int32}(h:code m pc=some (.if_icmp .ne (Int.ofNat t),pn,kp))(hk:tk kp ls=ls):f (m,pc,ls,.int y :: .int x::st,S)=if x=y then f (m,pn,ls,st,S) else f (m,t,ls,st,S):=by
 rw[hf]
 simp only[run,plan,h,hk,pl2,Int.ofNat_eq_natCast,Int.toNat_natCast]
 exact cnd_map f _ _ _ _ _
theorem iflt(hf:∀c,f c=run (plan code rt mop cop) f c){t:Nat}{x:Int32}(h:code m pc=some (.ifCond .lt (Int.ofNat t),pn,kp))(hk:tk kp ls=ls):f (m,pc,ls,.int x::st,S)=if x<0 then f (m,t,ls,st,S) else f (m,pn,ls,st,S):=by
 rw[hf]
 simp only[run,plan,h,hk,pl1,Int.ofNat_eq_natCast,Int.toNat_natCast]
 exact cnd_map f _ _ _ _ _
theorem iclt(hf:∀c,f c=run (plan code rt mop cop) f c){t:Nat}{x y:Int32}(h:code m pc=some (.if_icmp .lt (Int.ofNat t),pn,kp))(hk:tk kp ls=ls):f (m,pc,ls,.int y :: .int x::st,S)=if x<y then f (m,t,ls,st,S) else f (m,pn,ls,st,S):=by
 rw[hf]
 simp only[run,plan,h,hk,pl2,Int.ofNat_eq_natCast,Int.toNat_natCast]
 exact cnd_map f _ _ _ _ _
theorem ifge(hf:∀c,f c=run (plan code rt mop cop) f c){t:Nat}{x:Int32}(h:code m pc=some (.ifCond .ge (Int.ofNat t),pn,kp))(hk:tk kp ls=ls):f (m,pc,ls,.int x::st,S)=if x<0 then f (m,pn,ls,st,S) else f (m,t,ls,st,S):=by
 rw[hf]
 simp only[run,plan,h,hk,pl1,Int.ofNat_eq_natCast,Int.toNat_natCast]
 exact cnd_map f _ _ _ _ _
theorem icge(hf:∀c,f c=run (plan code rt mop cop) f c){t:Nat}{x y:Int32}(h:code m pc=some (.if_icmp .ge (Int.ofNat t),pn,kp))(hk:tk kp ls=ls):f (m,pc,ls,.int y :: .int x::st,S)=if x<y then f (m,pn,ls,st,S) else f (m,t,ls,st,S):=by
 rw[hf]
 simp only[run,plan,h,hk,pl2,Int.ofNat_eq_natCast,Int.toNat_natCast]
 exact cnd_map f _ _ _ _ _
theorem ifgt(hf:∀c,f c=run (plan code rt mop cop) f c){t:Nat}{x:Int32}(h:code m pc=some (.ifCond .gt (Int.ofNat t),pn,kp))(hk:tk kp ls=ls):f (m,pc,ls,.int x::st,S)=if 0<x then f (m,t,ls,st,S) else f (m,pn,ls,st,S):=by
 rw[hf]
 simp only[run,plan,h,hk,pl1,Int.ofNat_eq_natCast,Int.toNat_natCast]
 exact cnd_map f _ _ _ _ _
theorem icgt(hf:∀c,f c=run (plan code rt mop cop) f c){t:Nat}{x y:Int32}(h:code m pc=some (.if_icmp .gt (Int.ofNat t),pn,kp))(hk:tk kp ls=ls):f (m,pc,ls,.int y :: .int x::st,S)=if y<x then f (m,t,ls,st,S) else f (m,pn,ls,st,S):=by
 rw[hf]
 simp only[run,plan,h,hk,pl2,Int.ofNat_eq_natCast,Int.toNat_natCast]
 exact cnd_map f _ _ _ _ _
theorem ifle(hf:∀c,f c=run (plan code rt mop cop) f c){t:Nat}{x:Int32}(h:code m pc=some (.ifCond .le (Int.ofNat t),pn,kp))(hk:tk kp ls=ls):f (m,pc,ls,.int x::st,S)=if 0<x then f (m,pn,ls,st,S) else f (m,t,ls,st,S):=by
 rw[hf]
 simp only[run,plan,h,hk,pl1,Int.ofNat_eq_natCast,Int.toNat_natCast]
 exact cnd_map f _ _ _ _ _
theorem icle(hf:∀c,f c=run (plan code rt mop cop) f c){t:Nat}{x y:Int32}(h:code m pc=some (.if_icmp .le (Int.ofNat t),pn,kp))(hk:tk kp ls=ls):f (m,pc,ls,.int y :: .int x::st,S)=if y<x then f (m,pn,ls,st,S) else f (m,t,ls,st,S):=by
 rw[hf]
 simp only[run,plan,h,hk,pl2,Int.ofNat_eq_natCast,Int.toNat_natCast]
 exact cnd_map f _ _ _ _ _
theorem retn(hf:∀c,f c=run (plan code rt mop cop) f c)(h:code m pc=some (.return_,pn,kp))(hr:rt m=none):f (m,pc,ls,[],S)=some (none,S):=by
 rw[hf]
 simp only[run,plan,h,rest,retV,hr]
theorem reti(hf:∀c,f c=run (plan code rt mop cop) f c){v:Int32}(h:code m pc=some (.ireturn,pn,kp))(hr:rt m=some .int):f (m,pc,ls,[.int v],S)=some (some (.int v),S):=by
 rw[hf]
 simp only[run,plan,h,rest,retV,hr]
theorem retb(hf:∀c,f c=run (plan code rt mop cop) f c){v:Int32}(h:code m pc=some (.ireturn,pn,kp))(hr:rt m=some .boolean):f (m,pc,ls,[.int v],S)=some (some (.int (v&&&1)),S):=by
 rw[hf]
 simp only[run,plan,h,rest,retV,hr]
theorem retl(hf:∀c,f c=run (plan code rt mop cop) f c){v:Int64}(h:code m pc=some (.lreturn,pn,kp))(hr:rt m=some .long):f (m,pc,ls,[.long v],S)=some (some (.long v),S):=by
 rw[hf]
 simp only[run,plan,h,rest,retV,hr]
end F
abbrev MS:=Nat→Nat→Int32
abbrev FT1:=Cfg MS→Option (Res MS)
abbrev FT2:=Cfg (Bool×List MS)→Option (Res (Bool×List MS))
def upd(S:MS)(c i:Nat)(v:Int32):MS:=fun c' i'=>if c'=c∧i'=i then v else S c' i'
abbrev gS:MS→Nat→Nat→Int32:=fun S c i=>S c i
theorem upd_law(S:MS)(c i:Nat)(v:Int32)(c' i':Nat):gS (upd S c i v) c' i'=if c'=c∧i'=i then v else gS S c' i':=rfl
namespace F
variable {code:Codes} {rt:Nat→Option FieldType} {arrs:List (FieldType×Nat)} {na ml wm:Nat→Nat} {f:Cfg MS→Option (Res MS)} {m pc pn:Nat} {kp:Option Nat} {ls st:List Value} {S:MS}
theorem getI(hf:∀c,f c=run (plan code rt (mop1 arrs gS upd) (cop1 na ml wm)) f c){s k:Nat}(h:code m pc=some (.getfield k,pn,kp))(hk:tk kp ls=ls)(h3:k%3≠2)(hs:k/3=s){w:Int32}(hw:S 0 s=w):f (m,pc,ls,.ref 0::st,S)=f (m,pn,ls,.int w::st,S):=by
 subst hw
 rw[hf]
 simp only[run,plan,h,hk,rest,retV,loc,alu,mop1,gf,pf,al,sa,la,Option.map_none,h3,if_false,hs]
theorem getA(hf:∀c,f c=run (plan code rt (mop1 arrs gS upd) (cop1 na ml wm)) f c){s k:Nat}(h:code m pc=some (.getfield k,pn,kp))(hk:tk kp ls=ls)(h3:k%3=2)(hs:k/3+1=s):f (m,pc,ls,.ref 0::st,S)=f (m,pn,ls,.ref s::st,S):=by
 rw[hf]
 simp only[run,plan,h,hk,rest,retV,loc,alu,mop1,gf,pf,al,sa,la,Option.map_none,h3,if_true,hs]
theorem putI(hf:∀c,f c=run (plan code rt (mop1 arrs gS upd) (cop1 na ml wm)) f c){s k:Nat}{v:Int32}(h:code m pc=some (.putfield k,pn,kp))(hk:tk kp ls=ls)(h3:k%3=0)(hs:k/3=s):f (m,pc,ls,.int v :: .ref 0::st,S)=f (m,pn,ls,st,upd S 0 s v):=by
 rw[hf]
 simp only[run,plan,h,hk,rest,retV,loc,alu,mop1,gf,pf,al,sa,la,Option.map_none,h3,if_true,hs]
theorem putZ(hf:∀c,f c=run (plan code rt (mop1 arrs gS upd) (cop1 na ml wm)) f c){s k:Nat}{v:Int32}(h:code m pc=some (.putfield k,pn,kp))(hk:tk kp ls=ls)(h3:k%3=1)(hs:k/3=s):f (m,pc,ls,.int v :: .ref 0::st,S)=f (m,pn,ls,st,upd S 0 s (v&&&1)):=by
 rw[hf]
 simp only[run,plan,h,hk,rest,retV,loc,alu,mop1,gf,pf,al,sa,la,Option.map_none,h3,if_true,if_false,hs,Nat.one_ne_zero]
theorem putZ0(hf:∀c,f c=run (plan code rt (mop1 arrs gS upd) (cop1 na ml wm)) f c){s k:Nat}(h:code m pc=some (.putfield k,pn,kp))(hk:tk kp ls=ls)(h3:k%3=1)(hs:k/3=s):f (m,pc,ls,.int 0 :: .ref 0::st,S)=f (m,pn,ls,st,upd S 0 s 0):=putZ hf h hk h3 hs
theorem putZ1(hf:∀c,f c=run (plan code rt (mop1 arrs gS upd) (cop1 na ml wm)) f c){s k:Nat}(h:code m pc=some (.putfield k,pn,kp))(hk:tk kp ls=ls)(h3:k%3=1)(hs:k/3=s):f (m,pc,ls,.int 1 :: .ref 0::st,S)=f (m,pn,ls,st,upd S 0 s 1):=putZ hf h hk h3 hs
theorem iaload(hf:∀c,f c=run (plan code rt (mop1 arrs gS upd) (cop1 na ml wm)) f c){j n:Nat}{ty:FieldType}{i:Int32}(h:code m pc=some (.iaload,pn,kp))(hk:tk kp ls=ls)(ha:arrs[j]? = some (ty,n))(ht:isI ty=true){w:Int32}(hw:S (j+1) i.toNatClampNeg=w):f (m,pc,ls,.int i :: .ref (j+1)::st,S)=if inb i n=true then f (m,pn,ls,.int w::st,S) else none:=by
 subst hw
 rw[hf]
 simp only[run,plan,h,hk,rest,retV,loc,alu,mop1,gf,pf,al,sa,la,Option.map_none,ha,ht,true_and]
 by_cases q:inb i n=true
 ·simp only[q,if_true]
 ·simp only[q,if_false,cop1,Bool.false_eq_true]
theorem ialoadT(hf:∀c,f c=run (plan code rt (mop1 arrs gS upd) (cop1 na ml wm)) f c){j n:Nat}{ty:FieldType}{i:Int32}(h:code m pc=some (.iaload,pn,kp))(hk:tk kp ls=ls)(ha:arrs[j]? = some (ty,n))(ht:isI ty=true)(hi:inb i n=true){z:Nat}(hz:i.toNatClampNeg=z){w:Int32}(hw:S (j+1) z=w):f (m,pc,ls,.int i :: .ref (j+1)::st,S)=f (m,pn,ls,.int w::st,S):=by
 subst hz
 rw[iaload hf h hk ha ht hw,if_pos hi]
theorem baload(hf:∀c,f c=run (plan code rt (mop1 arrs gS upd) (cop1 na ml wm)) f c){j n:Nat}{ty:FieldType}{i:Int32}(h:code m pc=some (.baload,pn,kp))(hk:tk kp ls=ls)(ha:arrs[j]? = some (ty,n))(ht:isB ty=true){w:Int32}(hw:S (j+1) i.toNatClampNeg=w):f (m,pc,ls,.int i :: .ref (j+1)::st,S)=if inb i n=true then f (m,pn,ls,.int w::st,S) else none:=by
 subst hw
 rw[hf]
 simp only[run,plan,h,hk,rest,retV,loc,alu,mop1,gf,pf,al,sa,la,Option.map_none,ha,ht,true_and]
 by_cases q:inb i n=true
 ·simp only[q,if_true]
 ·simp only[q,if_false,cop1,Bool.false_eq_true]
theorem iastore(hf:∀c,f c=run (plan code rt (mop1 arrs gS upd) (cop1 na ml wm)) f c){j n:Nat}{ty:FieldType}{i v:Int32}(h:code m pc=some (.iastore,pn,kp))(hk:tk kp ls=ls)(ha:arrs[j]? = some (ty,n))(ht:isI ty=true){v':Int32}(hv:nar ty v=v'):f (m,pc,ls,.int v :: .int i :: .ref (j+1)::st,S)=if inb i n=true then f (m,pn,ls,st,upd S (j+1) i.toNatClampNeg v') else none:=by
 rw[hf]
 simp only[run,plan,h,hk,rest,retV,loc,alu,mop1,gf,pf,al,sa,la,Option.map_none,ha,ht,true_and,hv]
 by_cases q:inb i n=true
 ·simp only[q,if_true]
 ·simp only[q,if_false,cop1,Bool.false_eq_true]
theorem iastoreT(hf:∀c,f c=run (plan code rt (mop1 arrs gS upd) (cop1 na ml wm)) f c){j n:Nat}{ty:FieldType}{i v:Int32}(h:code m pc=some (.iastore,pn,kp))(hk:tk kp ls=ls)(ha:arrs[j]? = some (ty,n))(ht:isI ty=true){v':Int32}(hv:nar ty v=v')(hi:inb i n=true){z:Nat}(hz:i.toNatClampNeg=z):f (m,pc,ls,.int v :: .int i :: .ref (j+1)::st,S)=f (m,pn,ls,st,upd S (j+1) z v'):=by
 rw[iastore hf h hk ha ht hv,if_pos hi,hz]
theorem bastore(hf:∀c,f c=run (plan code rt (mop1 arrs gS upd) (cop1 na ml wm)) f c){j n:Nat}{ty:FieldType}{i v:Int32}(h:code m pc=some (.bastore,pn,kp))(hk:tk kp ls=ls)(ha:arrs[j]? = some (ty,n))(ht:isB ty=true){v':Int32}(hv:nar ty v=v'):f (m,pc,ls,.int v :: .int i :: .ref (j+1)::st,S)=if inb i n=true then f (m,pn,ls,st,upd S (j+1) i.toNatClampNeg v') else none:=by
 rw[hf]
 simp only[run,plan,h,hk,rest,retV,loc,alu,mop1,gf,pf,al,sa,la,Option.map_none,ha,ht,true_and,hv]
 by_cases q:inb i n=true
 ·simp only[q,if_true]
 ·simp only[q,if_false,cop1,Bool.false_eq_true]
theorem bastoreT(hf:∀c,f c=run (plan code rt (mop1 arrs gS upd) (cop1 na ml wm)) f c){j n:Nat}{ty:FieldType}{i v:Int32}(h:code m pc=some (.bastore,pn,kp))(hk:tk kp ls=ls)(ha:arrs[j]? = some (ty,n))(ht:isB ty=true){v':Int32}(hv:nar ty v=v')(hi:inb i n=true){z:Nat}(hz:i.toNatClampNeg=z):f (m,pc,ls,.int v :: .int i :: .ref (j+1)::st,S)=f (m,pn,ls,st,upd S (j+1) z v'):=by
 rw[bastore hf h hk ha ht hv,if_pos hi,hz]
theorem call(hf:∀c,f c=run (plan code rt (mop1 arrs gS upd) (cop1 na ml wm)) f c){k:Nat}{as r as':List Value}(h:code m pc=some (.invokevirtual k,pn,kp))(hk:tk kp ls=ls)(ht:takeA (na k) [] st=some (as,.ref 0::r))(hc:okn as=true∧cats r≤wm m∧(entL (.ref 0::as)).length≤ml k)(he:entL (.ref 0::as)=as'):f (m,pc,ls,st,S)=(f (k,0,as',[],S)).bind fun q=>f (m,pn,ls,q.1.toList++r,q.2):=by
 rw[hf]
 simp only[run,plan,h,hk,rest,retV,loc,alu,mop1,gf,pf,al,sa,la,Option.map_none,cop1,ht,he]
 rw[←he,if_pos hc]
end F
namespace F
variable {σ:Type} {code:Codes} {rt:Nat→Option FieldType} {f1:Cfg σ→Option (Res σ)} {Z0:σ} {pe nmax:Nat} {na1 ml1 wm na ml:Nat→Nat} {sc:Option (List Int32)} {f:Cfg (W2 σ)→Option (Res (W2 σ))} {m pc pn:Nat} {kp:Option Nat} {ls st:List Value} {ob:List σ} {b:Bool}
theorem new(hf:∀c,f c=run (plan code rt (mop2 f1 Z0 pe nmax na1 ml1 wm sc) (cop2 na ml wm)) f c){q r:Nat}(h:code 0 pc=some (.new q,pn,kp))(hk:tk kp ls=ls)(hl:ob.length<nmax)(hr:ob.length+1=r):f (0,pc,ls,st,(false,ob))=f (0,pn,ls,.ref r::st,(true,ob)):=by
 rw[hf]
 simp only[run,plan,h,hk,rest,retV,loc,alu,Option.map_none,mop2,nw,hl,true_and,if_true,hr]
theorem ctor(hf:∀c,f c=run (plan code rt (mop2 f1 Z0 pe nmax na1 ml1 wm sc) (cop2 na ml wm)) f c){q r:Nat}{as as' rs:List Value}(h:code 0 pc=some (.invokespecial q,pn,kp))(hk:tk kp ls=ls)(ht:takeA (na1 0) [] st=some (as,.ref r::rs))(hr:r=ob.length+1)(hc:okn as=true∧cats rs≤wm 0∧(entL (.ref 0::as)).length≤ml1 0)(he:entL (.ref 0::as)=as') :
  f (0,pc,ls,st,(true,ob))=(f1 (0,pe,as',[],Z0)).bind fun q=>f (0,pn,ls,rs,(false,ob++[q.2])):=by
 rw[hf]
 subst he
 simp only[run,plan,h,hk,rest,retV,loc,alu,Option.map_none,mop2,ct,ht]
 rw[if_pos ⟨⟨trivial,hr⟩,hc⟩]
 cases f1 (0,pe,entL (.ref 0::as),[],Z0) with
 |none=>simp only[Option.map_none,cop2,Option.bind_none]
 |some q=>simp only[Option.map_some,Option.bind_some]
theorem virt(hf:∀c,f c=run (plan code rt (mop2 f1 Z0 pe nmax na1 ml1 wm sc) (cop2 na ml wm)) f c){k o:Nat}{as as' rs:List Value}{S:σ}(h:code m pc=some (.invokevirtual k,pn,kp))(hk:tk kp ls=ls)(ht:takeA (na1 k) [] st=some (as,.ref (o+1)::rs))(hS:ob[o]? = some S)(hc:okn as=true∧cats rs≤wm m∧(entL (.ref 0::as)).length≤ml1 k)(he:entL (.ref 0::as)=as') :
  f (m,pc,ls,st,(false,ob))=(f1 (k,0,as',[],S)).bind fun q=>f (m,pn,ls,q.1.toList++rs,(false,ob.set o q.2)):=by
 rw[hf]
 subst he
 simp only[run,plan,h,hk,rest,retV,loc,alu,Option.map_none,mop2,vt,ht,hS]
 rw[if_pos hc]
 cases f1 (k,0,entL (.ref 0::as),[],S) with
 |none=>simp only[Option.map_none,cop2,Option.bind_none]
 |some q=>simp only[Option.map_some,Option.bind_some]
theorem sload(hf:∀c,f c=run (plan code rt (mop2 f1 Z0 pe nmax na1 ml1 wm sc) (cop2 na ml wm)) f c){i:Int32}{xs:List Int32}(hx:sc=some xs)(h:code m pc=some (.iaload,pn,kp))(hk:tk kp ls=ls){w:W2 σ}:f (m,pc,ls,.int i :: .ref 0::st,w)=if inb i xs.length=true then f (m,pn,ls,.int (xs.getD i.toNatClampNeg 0)::st,w) else none:=by
 rw[hf]
 subst hx
 simp only[run,plan,h,hk,rest,retV,loc,alu,Option.map_none,mop2,sl]
 by_cases q:inb i xs.length=true
 ·simp only[q,if_true]
 ·simp only[q,if_false,cop2,Bool.false_eq_true]
theorem slen(hf:∀c,f c=run (plan code rt (mop2 f1 Z0 pe nmax na1 ml1 wm sc) (cop2 na ml wm)) f c){xs:List Int32}(hx:sc=some xs)(h:code m pc=some (.arraylength,pn,kp))(hk:tk kp ls=ls){w:W2 σ}:f (m,pc,ls,.ref 0::st,w)=f (m,pn,ls,.int (Int32.ofNat xs.length)::st,w):=by
 rw[hf]
 subst hx
 simp only[run,plan,h,hk,rest,retV,loc,alu,Option.map_none,mop2,sn]
theorem stat(hf:∀c,f c=run (plan code rt (mop2 f1 Z0 pe nmax na1 ml1 wm sc) (cop2 na ml wm)) f c){k:Nat}{as as' rs:List Value}{w:W2 σ}(h:code m pc=some (.invokestatic k,pn,kp))(hk:tk kp ls=ls)(ht:takeA (na k) [] st=some (as,rs))(hc:k≠0∧okv as=true∧cats rs≤wm m∧(entL as).length≤ml k)(he:entL as=as') :
  f (m,pc,ls,st,w)=(f (k,0,as',[],w)).bind fun q=>f (m,pn,ls,q.1.toList++rs,q.2):=by
 rw[hf]
 subst he
 simp only[run,plan,h,hk,rest,retV,loc,alu,Option.map_none,mop2,cop2,ht]
 rw[if_pos hc]
end F
section Top
variable {σ:Type} {C:String} {gds:List (String×String)} {fds:List (String×String×Nat)} {arrs:List (FieldType×Nat)} {Z:State} {G:σ→Nat→Nat→Int32} {fs nmax:Nat} {sc:Option (List Int32)} {mi2:MI} {rt2:Nat→Option FieldType} {l:Launch} {own:String}
set_option maxHeartbeats 1000000 in
theorem top{code2:Codes}{mop:Mop (W2 σ)}{cop:Cop}{n:Nat}(hW:Walks code2 rt2 mop cop mi2 own Z l (rho2 (arrs.length+1)) (J2 C gds fds arrs Z G fs nmax sc) n)(hpn:plainName own=true)(hcls:(mi2 0).1.cls=own){as:List Value}(hok:okv as=true)(hlen:(entL as).length≤(mi2 0).2.2.1)
  {r:Res (W2 σ)} (hit:iter (plan code2 rt2 mop cop) n (0,0,entL as,[],(false,[]))=some r) {rm:Room} (hfr:(mi2 0).2.2.2.1≤rm.frames) (hlw:(mi2 0).2.2.2.2≤rm.locals) (hRc:nmax*(arrs.length+1)≤rm.cells) (hRs:nmax*(fs+slotSum arrs arrs.length)≤rm.slots) {h:Heap} {sa:Nat}
  (hsc:∀xs,sc=some xs→sa<h.size∧xs.length<2147483648∧∃cell,Arr Z h sa cell .int∧cell.slots.size=xs.length∧∀i,i<xs.length→cell.slots[i]? = some (.int (xs.getD i 0))) (ws:List Jvm.Cond) :
  MetFree l (mi2 0).1 (head1 (Cond.code (mi2 0).1 (mi2 0).2.1 (mi2 0).2.2.1 (rt2 0)::ws) rm)
   (fun A U=>A=(as.map (cv (rho2 (arrs.length+1) (sa,h.size,0,0)))).toArray∧Z.Warmed39 U.vm∧U.heap=h) (fun _ _ _ _ _=>True)
   (fun _ U o U'=>∃v L,o = .returned v∧(v=r.1∧Fr h.size L)∧FrameEnd U o U' L rm.cells rm.slots):=by
 refine MetFree.of_bodySF (plainFor_of_name (by rw[hcls];exact hpn)) hisR ?_
 intro p e s m args below meth c s₁ Bd hml0 hP hK
 obtain⟨rfl,hZ,hh⟩:=hP
 have hown:s.vm.findClass own=some m.cls:=by rw[←hcls];exact findClass_of_methodNamed Bd.named
 have hnm:=(name_of_methodNamed Bd.named Bd.method).1
 have X0:=Stand.of_body Bd
 have e0:s₁.heap=h:=by rw[←hh,Bd.state];rfl
 obtain⟨L,q1,q2,q3,q4⟩:=entry_rel (rho2 (arrs.length+1) (sa,h.size,0,0)) (vs:=as) hok hlen
 obtain⟨T',L',k',n',X',⟨-,⟨j3,j4⟩,-,-,-,-,jN⟩,⟨ok1,ok2⟩,st⟩:=hW (sa,h.size,0,0) p e _ s m _ below meth c 0 0 _ [] (false,[]) r hit s₁ [] 0 0 L X0 ⟨Bd.exec,hZ,hown,Bd.bytes,hml0,Bd.returns,hnm,hfr,hlw⟩
  ⟨⟨by simp[cnt],by simp[scn]⟩,⟨Nat.zero_le _,Nat.zero_le _⟩,fun _=>⟨rfl,rfl,hRc,hRs⟩,fun q=>absurd rfl q,by rw[hh];rfl,by rw[e0];exact⟨fun o S q=>by simp at q,fun q=>(by cases q),by simp[cnt],hsc⟩,Fr.nil _⟩ q2 q3 (by rw[q4,hml0])
 obtain⟨fs',hr,hrun,hended,hWm,hsame⟩:=X'.leave (v:=r.1) ok1
 refine⟨_,_,?_,hrun,hended,_,_,rfl,⟨rfl,jN⟩,⟨_,rfl⟩,hWm,hsame.mono j3 j4⟩
 have:=st fs' hr
 rw[q1 m]
 exact this
end Top
def laidW(fin:Bool)(C n d:String):Jvm.Cond:=if fin=true then .laysFinal C C n d else .lays C C n d
abbrev Ent:=Nat×Instr×Nat×Option Nat
abbrev Mth:=MethodName×ByteArray×Nat×Nat×Nat×Option FieldType×Nat×Nat×Bool×List Ent
def m0:Mth:=(⟨"","",""⟩,⟨#[]⟩,0,0,0,none,0,0,false,[])
def miOf(ms:List Mth)(k:Nat):MethodName×ByteArray×Nat×Nat×Nat:=let q:=ms.getD k m0;(q.1,q.2.1,q.2.2.1,q.2.2.2.1,q.2.2.2.2.1)
def rtOf(ms:List Mth)(k:Nat):Option FieldType:=(ms.getD k m0).2.2.2.2.2.1
def naOf(ms:List Mth)(k:Nat):Nat:=(ms.getD k m0).2.2.2.2.2.2.1
def wmOf(ms:List Mth)(k:Nat):Nat:=(ms.getD k m0).2.2.2.2.2.2.2.1
def clOf(ms:List Mth)(k:Nat):List Ent:=(ms.getD k m0).2.2.2.2.2.2.2.2.2
def cdOf(ms:List Mth):Codes:=fun m pc=>lk pc (clOf ms m)
def goodB(Tb:Tabs)(ms:List Mth):Bool:=ms.all fun q=>q.2.2.2.2.2.2.2.2.2.all (chkE Tb q.2.1 q.2.2.1)
theorem good_of{Tb:Tabs}{ms:List Mth}(h:goodB Tb ms=true):Good Tb (miOf ms) (cdOf ms):=by
 intro mm pc q hq
 have hq':=lk_mem hq
 unfold clOf at hq'
 by_cases hm:mm<ms.length
 ·have e:ms.getD mm m0=ms[mm]:=by simp[List.getD,hm]
  have h1:=List.all_eq_true.mp h ms[mm] (List.getElem_mem hm)
  have h2:=List.all_eq_true.mp h1 (pc,q) (by rw[e] at hq';exact hq')
  show chkE Tb (ms.getD mm m0).2.1 (ms.getD mm m0).2.2.1 (pc,q)=true
  rw[e];exact h2
 ·have e:ms.getD mm m0=m0:=by simp[List.getD,hm]
  rw[e] at hq'
  cases hq'
def roomB(ms callees:List Mth)(isCall:Instr→Option Nat):Bool:=ms.all fun q=>q.2.2.2.2.2.2.2.2.2.all fun en=>match isCall en.2.1 with
 |some k=>decide ((callees.getD k m0).2.2.2.1+1≤q.2.2.2.1)&&decide (q.2.2.2.2.2.2.2.1+((callees.getD k m0).2.2.1+11)+(callees.getD k m0).2.2.2.2.1≤q.2.2.2.2.1)
 |none=>true
theorem room_of{ms callees:List Mth}{isCall:Instr→Option Nat}(h:roomB ms callees isCall=true){mm pc k:Nat}{i:Instr}{pn:Nat}{kp:Option Nat}(hc:cdOf ms mm pc=some (i,pn,kp))(hi:isCall i=some k) :
  (miOf callees k).2.2.2.1+1≤(miOf ms mm).2.2.2.1∧wmOf ms mm+((miOf callees k).2.2.1+11)+(miOf callees k).2.2.2.2≤(miOf ms mm).2.2.2.2:=by
 have hq':=lk_mem hc
 unfold clOf at hq'
 by_cases hm:mm<ms.length
 ·have e:ms.getD mm m0=ms[mm]:=by simp[List.getD,hm]
  have h1:=List.all_eq_true.mp h ms[mm] (List.getElem_mem hm)
  have h2:=List.all_eq_true.mp h1 (pc,i,pn,kp) (by rw[e] at hq';exact hq')
  simp only[hi,Bool.and_eq_true,decide_eq_true_eq] at h2
  simp only[miOf,wmOf,e]
  exact h2
 ·have e:ms.getD mm m0=m0:=by simp[List.getD,hm]
  rw[e] at hq'
  cases hq'
def callVk:Instr→Option Nat
 | .invokevirtual k=>some k
 |_=>none
def callSk:Instr→Option Nat
 | .invokestatic k=>some k
 |_=>none
abbrev Cls:=String×Nat×List (String×String)×List (String×String×Nat)×List (FieldType×Nat)×Bool×List Item×Nat×Nat×List (Nat×Int)×Tabs×List Mth
def mthW(C:String)(q:Mth):List Jvm.Cond:=if q.1.cls = "" then [] else [.instanceMethod q.1,.code q.1 q.2.1 q.2.2.1 q.2.2.2.2.2.1]++(if q.2.2.2.2.2.2.2.2.1=true then [.privateMethod q.1] else [.declares q.1,.selects C q.1 q.1])
def needs1(D:Cls):List Jvm.Cond:=match D with
 |(C,fs,gds,fds,_,fa,items,_,oi,_,Tb,ms)=>
  [.instantiable C fs,.initialized C,.methodLink C oi Lib.objectInit,.instanceMethod Lib.objectInit,.code Lib.objectInit ⟨#[0xb1]⟩ 1 none,.instanceMethod (ms.getD 0 m0).1,.code (ms.getD 0 m0).1 (ms.getD 0 m0).2.1 (ms.getD 0 m0).2.2.1 none] ++
  fds.map (fun q=>if q.2.2%3=2 then laidW fa C q.1 q.2.1 else .lays C C q.1 q.2.1)++gds.map (fun q=>laidW true C q.1 q.2)++Tb.1.map (fun q => .fieldLink C q.1 C q.2.1 q.2.2.1)++items.map (fun q => .fieldLink C q.2.1 C q.2.2.1 q.2.2.2) ++
  items.filterMap (fun q=>q.1.map fun t => .arrayClass (newarray.typeOf t))++Tb.2.1.map (fun q => .methodLink C q.1 (ms.getD q.2 m0).1)++(ms.drop 1).flatMap (mthW C)++Tb.2.2.2.1.map (fun q => .constant C q.1 q.2)++Tb.2.2.2.2.1.map (fun q => .constantLong C q.1 q.2)
def descB(q:Mth):Bool:=match parseMethodDescriptor q.1.desc with
 |some ⟨ps,r⟩=>decide (r=q.2.2.2.2.2.1)&&decide (ps.length=q.2.2.2.2.2.2.1)
 |none=>false
def isArrD(d:String):Bool:=match parseFieldDescriptor d with
 |some (.array _)=>true
 |_=>false
def data1(D:Cls):Bool:=match D with
 |(C,fs,gds,fds,arrs,fa,items,pe,oi,iv,Tb,ms)=>
  decide ((gds.map (·.1)++fds.map (·.1)).Nodup)&&decide ((fds.map fun q=>q.2.2).Nodup)&&decide (((fds.filter fun q=>decide (q.2.2%3≠2)).map fun q=>q.2.2/3).Nodup) &&
  fds.all (fun q=>decide (q.2.2%3=0→q.2.1 = "I")&&decide (q.2.2%3=1→q.2.1 = "Z")&&decide (q.2.2%3=2→(isArrD q.2.1=true∧q.2.2/3<arrs.length)))&&gds.all (fun q=>decide (q.2 = "I"))&&Tb.1.all (fun q=>decide ((q.2.1,q.2.2.1,q.2.2.2)∈fds)) &&
  arrs.all (fun q=>decide (q.1 = .int∨q.1 = .boolean∨q.1 = .byte))&&items.all (fun q=>match q.1 with
   |none=>decide ((q.2.2.1,q.2.2.2)∈gds)||fds.any fun w=>decide (w.1=q.2.2.1)&&decide (w.2.1=q.2.2.2)&&decide (w.2.2%3=0)
   |some _=>fds.any fun w=>decide (w.1=q.2.2.1)&&decide (w.2.1=q.2.2.2)&&decide (w.2.2%3=2)) &&
  Tb.2.1.all (fun q=>decide (1≤q.2)&&decide (q.2<ms.length)&&decide ((ms.getD q.2 m0).1.cls=C))&&ms.all (fun q=>decide (q.1.cls = "")||descB q)&&decide (C ≠ "")&&decide ((ms.getD 0 m0).1.cls=C)&&decide (C ≠ "java/lang/invoke/MethodHandle")&&decide (C ≠ "java/lang/invoke/VarHandle")&&plainName C &&
  decide ((ms.getD 0 m0).1.name = "<init>")&&decide ((ms.getD 0 m0).2.2.2.2.2.1=none)&&decide (0<ms.length)&&decide (1≤(ms.getD 0 m0).2.2.2.1)&&decide (12≤(ms.getD 0 m0).2.2.2.2.1) &&
  proChk (ms.getD 0 m0).2.1 Tb (ms.getD 0 m0).2.2.1 gds fds arrs pe items 4 0 iv&&(match decode (ms.getD 0 m0).2.1 0,decode (ms.getD 0 m0).2.1 1 with
   | .ok (.aload_n 0,1),.ok (.invokespecial oi',3)=>decide (oi'=oi)
   |_,_=>false)
theorem nodup_inj{α β:Type}{f:α→β}:∀ {l:List α},(l.map f).Nodup→∀ {a b:α},a∈l→b∈l→f a=f b→a=b
 |[],_,a,b,ha,_,_=>by cases ha
 |x::l,h,a,b,ha,hb,e=>by
  rw[List.map_cons,List.nodup_cons] at h
  rcases List.mem_cons.mp ha with rfl | ha'<;>rcases List.mem_cons.mp hb with rfl | hb'
  ·rfl
  ·exact absurd (e▸List.mem_map_of_mem hb') h.1
  ·exact absurd (e.symm▸List.mem_map_of_mem ha') h.1
  ·exact nodup_inj h.2 ha' hb' e
theorem laid_of{Z:State}{a0:Array Value}{fin:Bool}{C n d:String}(h:(laidW fin C n d).before a0 Z=true):Laid Z a0 C C n d:=by
 unfold laidW at h
 split at h
 ·exact Or.inr h
 ·exact Or.inl h
set_option maxHeartbeats 1000000 in
theorem base_of{C:String}{fs:Nat}{gds:List (String×String)}{fds:List (String×String×Nat)}{arrs:List (FieldType×Nat)}{fa:Bool}{items:List Item}{pe oi:Nat}{iv:List (Nat×Int)}{Tb:Tabs}{ms:List Mth}{Z:State}{a0:Array Value}
  (hD:data1 (C,fs,gds,fds,arrs,fa,items,pe,oi,iv,Tb,ms)=true) (hw:∀w∈needs1 (C,fs,gds,fds,arrs,fa,items,pe,oi,iv,Tb,ms),w.before a0 Z=true) :
  Base C gds fds arrs items Z a0 fs Tb (miOf ms) (rtOf ms) (naOf ms) pe oi iv∧∀own k idx Tb',(∀idx',(idx',k)∈Tb'.2.1→(Cond.methodLink own idx' (miOf ms k).1).before a0 Z=true)→(idx,k)∈Tb'.2.1→(ms.getD k m0).1.cls=C→k≠0→MthOK C Tb' Z a0 (miOf ms) (rtOf ms) own k (naOf ms):=by
 simp only[data1,Bool.and_eq_true,decide_eq_true_eq] at hD
 obtain⟨⟨⟨⟨⟨⟨⟨⟨⟨⟨⟨⟨⟨⟨⟨⟨⟨⟨⟨⟨⟨h1,h2⟩,h3⟩,h4⟩,h5⟩,h6⟩,h7⟩,h8⟩,h9⟩,h10⟩,h10a⟩,h10b⟩,h11⟩,h12⟩,h13⟩,h14⟩,h15⟩,h16⟩,h17⟩,h18⟩,h19⟩,h20⟩:=hD
 simp only[List.all_eq_true,Bool.and_eq_true,decide_eq_true_eq] at h4 h5 h6 h7 h9
 have h1g:(gds.map (·.1)).Nodup:=(List.nodup_append.mp h1).1
 have h1f:(fds.map (·.1)).Nodup:=(List.nodup_append.mp h1).2.1
 have h1d:∀n∈gds.map (·.1),∀n'∈fds.map (·.1),n≠n':=(List.nodup_append.mp h1).2.2
 have w0:(Cond.instantiable C fs).before a0 Z=true:=hw _ (by simp[needs1])
 have w1:(Cond.initialized C).before a0 Z=true:=hw _ (by simp[needs1])
 have w2:(Cond.methodLink C oi Lib.objectInit).before a0 Z=true:=hw _ (by simp[needs1])
 have w3:(Cond.instanceMethod Lib.objectInit).before a0 Z=true:=hw _ (by simp[needs1])
 have w4:(Cond.code Lib.objectInit ⟨#[0xb1]⟩ 1 none).before a0 Z=true:=hw _ (by simp[needs1])
 have wf:∀q∈fds,(if q.2.2%3=2 then laidW fa C q.1 q.2.1 else Jvm.Cond.lays C C q.1 q.2.1).before a0 Z=true:=fun q hq=>hw _ (by
  simp only[needs1,List.mem_append]
  exact Or.inl (Or.inl (Or.inl (Or.inl (Or.inl (Or.inl (Or.inl (Or.inl (Or.inr (List.mem_map.mpr ⟨q,hq,rfl⟩))))))))))
 have wg:∀q∈gds,(laidW true C q.1 q.2).before a0 Z=true:=fun q hq=>hw _ (by
  simp only[needs1,List.mem_append]
  exact Or.inl (Or.inl (Or.inl (Or.inl (Or.inl (Or.inl (Or.inl (Or.inr (List.mem_map.mpr ⟨q,hq,rfl⟩)))))))))
 have wl:∀q∈Tb.1,(Jvm.Cond.fieldLink C q.1 C q.2.1 q.2.2.1).before a0 Z=true:=fun q hq=>hw _ (by
  simp only[needs1,List.mem_append]
  exact Or.inl (Or.inl (Or.inl (Or.inl (Or.inl (Or.inl (Or.inr (List.mem_map.mpr ⟨q,hq,rfl⟩))))))))
 have wi:∀q∈items,(Jvm.Cond.fieldLink C q.2.1 C q.2.2.1 q.2.2.2).before a0 Z=true:=fun q hq=>hw _ (by
  simp only[needs1,List.mem_append]
  exact Or.inl (Or.inl (Or.inl (Or.inl (Or.inl (Or.inr (List.mem_map.mpr ⟨q,hq,rfl⟩)))))))
 have wa:∀q∈items,∀t,q.1=some t→(Jvm.Cond.arrayClass (newarray.typeOf t)).before a0 Z=true:=fun q hq t ht=>hw _ (by
  simp only[needs1,List.mem_append]
  exact Or.inl (Or.inl (Or.inl (Or.inl (Or.inr (List.mem_filterMap.mpr ⟨q,hq,by rw[ht];rfl⟩))))))
 have wm:∀q∈ms.drop 1,∀w∈mthW C q,w.before a0 Z=true:=fun q hq w hw'=>hw _ (by
  simp only[needs1,List.mem_append]
  exact Or.inl (Or.inl (Or.inr (List.mem_flatMap.mpr ⟨q,hq,hw'⟩))))
 have wc:∀q∈Tb.2.2.2.1,(Jvm.Cond.constant C q.1 q.2).before a0 Z=true:=fun q hq=>hw _ (by
  simp only[needs1,List.mem_append]
  exact Or.inl (Or.inr (List.mem_map.mpr ⟨q,hq,rfl⟩)))
 have wcl:∀q∈Tb.2.2.2.2.1,(Jvm.Cond.constantLong C q.1 q.2).before a0 Z=true:=fun q hq=>hw _ (by
  simp only[needs1,List.mem_append]
  exact Or.inr (List.mem_map.mpr ⟨q,hq,rfl⟩))
 have lf:∀n d k,(n,d,k)∈fds→Laid Z a0 C C n d:=fun n d k hq=>by
  have:=wf _ hq
  dsimp only at this
  split at this
  ·exact laid_of this
  ·exact Or.inl this
 have pf':∀n d k,(n,d,k)∈fds→∃t,parseFieldDescriptor d=some t:=fun n d k hq=>by
  obtain⟨⟨a,b⟩,c⟩:=h4 _ hq
  dsimp only at a b c
  have:k%3=0∨k%3=1∨k%3=2:=by omega
  rcases this with q | q | q
  ·rw[a q];exact⟨.int,by decide⟩
  ·rw[b q];exact⟨.boolean,by decide⟩
  ·have:=(c q).1
   unfold isArrD at this
   split at this
   ·rename_i u hu;exact⟨_,hu⟩
   ·cases this
 have K:ClsOK C fds arrs Tb Z a0:=by
  refine⟨⟨fs,w0⟩,fun n d k hq=>⟨lf n d k hq,fun q=>?_,fun q=>(h4 _ hq).1.1 q,fun q=>(h4 _ hq).1.2 q,pf' n d k hq⟩,fun n d k n' d' k' hq hq' e=>?_,fun n d k n' d' k' hq hq' e q q'=>?_,fun idx n d k hq=>⟨wl _ hq,h6 _ hq⟩,fun j ty n hj=>h7 _ (List.mem_of_getElem? hj)⟩
  ·have:=wf _ hq
   dsimp only at this
   rw[if_neg q] at this
   exact this
  ·have:=nodup_inj h1f hq hq' e
   simp only[Prod.mk.injEq] at this
   exact this.2
  ·intro e'
   have m1:(n,d,k)∈fds.filter fun q=>decide (q.2.2%3≠2):=List.mem_filter.mpr ⟨hq,by simpa using q⟩
   have m2:(n',d',k')∈fds.filter fun q=>decide (q.2.2%3≠2):=List.mem_filter.mpr ⟨hq',by simpa using q'⟩
   have:=nodup_inj h3 m1 m2 e'
   simp only[Prod.mk.injEq] at this
   exact e this.1
 have M:MakOK C gds fds arrs items Z a0:=by
  refine⟨fun t idx n d hq=>⟨wi _ hq,?_,fun ht=>?_,fun ht=>?_,fun t' ht=>wa _ hq t' ht⟩,fun n d hq=>⟨laid_of (wg _ hq),?_,fun n' d' k' hq' e=>h1d n (List.mem_map_of_mem hq) n' (List.mem_map_of_mem hq') e⟩,fun n d n' d' q hq hq'=>?_,fun n d n' d' hq hq' e=>?_,fun j ty n hj=>?_⟩
  ·have:=List.all_eq_true.mp h8 _ hq
   dsimp only at this
   split at this
   ·simp only[Bool.or_eq_true,decide_eq_true_eq,List.any_eq_true,Bool.and_eq_true] at this
    rcases this with q | ⟨⟨n1,d1,k1⟩,m1,⟨e1,e2⟩,e3⟩
    ·exact laid_of (wg _ q)
    ·dsimp only at e1 e2;subst e1 e2;exact lf _ _ _ m1
   ·simp only[decide_eq_true_eq,List.any_eq_true,Bool.and_eq_true] at this
    obtain⟨⟨n1,d1,k1⟩,m1,⟨e1,e2⟩,e3⟩:=this
    dsimp only at e1 e2;subst e1 e2;exact lf _ _ _ m1
  ·have:=List.all_eq_true.mp h8 _ hq
   dsimp only at this
   subst ht
   simp only[Bool.or_eq_true,decide_eq_true_eq,List.any_eq_true,Bool.and_eq_true] at this
   rcases this with q | ⟨⟨n1,d1,k1⟩,m1,⟨e1,e2⟩,e3⟩
   ·exact h5 _ q
   ·dsimp only at e1 e2 e3;subst e1 e2;exact (h4 _ m1).1.1 e3
  ·have:=List.all_eq_true.mp h8 _ hq
   dsimp only at this
   cases t with
   |none=>exact absurd rfl ht
   |some t'=>
    simp only[decide_eq_true_eq,List.any_eq_true,Bool.and_eq_true] at this
    obtain⟨⟨n1,d1,k1⟩,m1,⟨e1,e2⟩,e3⟩:=this
    dsimp only at e1 e2 e3;subst e1 e2
    have:=((h4 _ m1).2 e3).1
    unfold isArrD at this
    split at this
    ·rename_i u hu;exact⟨u,hu⟩
    ·cases this
  ·exact h5 _ hq
  ·have:=nodup_inj h2 hq hq' rfl
   simp only[Prod.mk.injEq] at this
   exact this.1
  ·have:=nodup_inj h1g hq hq' e
   simp only[Prod.mk.injEq] at this
   exact this.2
  ·rcases h7 _ (List.mem_of_getElem? hj) with q | q | q<;>(dsimp only at q;subst q;rfl)
 have hdesc:∀k,(ms.getD k m0).1.cls=C→∃ps,parseMethodDescriptor (miOf ms k).1.desc=some ⟨ps,rtOf ms k⟩∧ps.length=naOf ms k:=by
  intro k hk
  have hm:k<ms.length:=by
   apply Classical.byContradiction
   intro q
   have e:ms.getD k m0=m0:=by simp[List.getD,q]
   rw[e] at hk
   exact h10a hk.symm
  have e:ms.getD k m0=ms[k]:=by simp[List.getD,hm]
  have:=List.all_eq_true.mp h10 ms[k] (List.getElem_mem hm)
  rw[←e] at this
  simp only[Bool.or_eq_true,decide_eq_true_eq] at this
  rcases this with q | q
  ·rw[hk] at q;exact absurd q h10a
  ·unfold descB at q
   split at q
   ·rename_i ps r hp
    simp only[Bool.and_eq_true,decide_eq_true_eq] at q
    refine⟨ps,?_,q.2⟩
    rw[show rtOf ms k=r from q.1.symm]
    exact hp
   ·cases q
 refine⟨⟨⟨K,M,⟨fun k v hq=>wc _ hq,fun k v hq=>wcl _ hq⟩,w0,w1⟩,⟨h13,⟨h11,h12⟩,h10b,h14,h15⟩,fun n d q hq q3=>((h4 _ hq).2 q3).2,⟨h19,?_⟩,⟨w2,w3,w4⟩,⟨h17,h18⟩,?_⟩,?_⟩
 ·split at h20
  ·rename_i q1 q2
   simp only[decide_eq_true_eq] at h20
   subst h20
   exact⟨q1,q2⟩
  ·cases h20
 ·obtain⟨ps,q1,q2⟩:=hdesc 0 h10b
  refine⟨ps,?_,q2⟩
  rw[q1]
  have:rtOf ms 0=none:=h15
  rw[this]
 ·intro own k idx Tb' hl hidx hk hk0
  refine⟨fun idx' hidx'=>⟨hk,hl idx' hidx',?_⟩,hdesc k hk⟩
  have hm:k<ms.length:=by
   apply Classical.byContradiction
   intro q
   have e:ms.getD k m0=m0:=by simp[List.getD,q]
   rw[e] at hk
   exact h10a hk.symm
  have e:ms.getD k m0=ms[k]:=by simp[List.getD,hm]
  have hmem:ms.getD k m0∈ms.drop 1:=by
   rw[e]
   obtain⟨k',rfl⟩:∃k',k=k'+1:=⟨k-1,by omega⟩
   exact List.mem_of_getElem? (i:=k') (by rw[List.getElem?_drop];simp[Nat.add_comm,hm])
  have hw1:=wm _ hmem
  have hne:(ms.getD k m0).1.cls ≠ "" := by rw[hk];exact h10a
  simp only[mthW,if_neg hne] at hw1
  refine⟨hw1 _ (List.mem_append_left _ (List.mem_cons_self ..)),hw1 _ (List.mem_append_left _ (List.mem_cons_of_mem _ (List.mem_cons_self ..))),?_⟩
  by_cases hp:(ms.getD k m0).2.2.2.2.2.2.2.2.1=true
  ·exact Or.inl (hw1 _ (List.mem_append_right _ (by rw[if_pos hp];exact List.mem_cons_self ..)))
  ·exact Or.inr ⟨hw1 _ (List.mem_append_right _ (by rw[if_neg hp];exact List.mem_cons_self ..)),hw1 _ (List.mem_append_right _ (by rw[if_neg hp];exact List.mem_cons_of_mem _ (List.mem_cons_self ..)))⟩
def data2(C own:String)(ms ms2:List Mth)(Tb2:Tabs):Bool:=
 decide (own ≠ "java/lang/invoke/MethodHandle")&&decide (own ≠ "java/lang/invoke/VarHandle")&&plainName own&&ms2.all (fun q=>decide (q.1.cls=own)&&descB q)&&Tb2.2.1.all (fun q=>decide (q.2≠0)&&decide ((ms.getD q.2 m0).1.cls=C))&&Tb2.2.2.1.all (fun q=>decide (q.2<ms2.length))&&decide (0<ms2.length)
def needs2(C own:String)(ms ms2:List Mth)(Tb2:Tabs):List Jvm.Cond:=
 Tb2.2.2.2.2.2.1.map (fun q => .classLink own q.1 C)++Tb2.2.2.2.2.2.2.map (fun q => .methodLink own q.1 (ms.getD 0 m0).1)++Tb2.2.1.map (fun q => .methodLink own q.1 (ms.getD q.2 m0).1) ++
 Tb2.2.2.1.flatMap (fun q=>[.methodLink own q.1 (ms2.getD q.2 m0).1,.static (ms2.getD q.2 m0).1,.initialized own,.code (ms2.getD q.2 m0).1 (ms2.getD q.2 m0).2.1 (ms2.getD q.2 m0).2.2.1 (ms2.getD q.2 m0).2.2.2.2.2.1]) ++
 Tb2.2.2.2.1.map (fun q => .constant own q.1 q.2)++Tb2.2.2.2.2.1.map (fun q => .constantLong own q.1 q.2)
def callCk:Instr→Option Nat
 | .invokespecial _=>some 0
 |_=>none
def hasB(tw:List Jvm.Cond):List Jvm.Cond→List Nat→Bool
 |[],[]=>true
 |w::ws,i::is=>decide (tw[i]? = some w)&&hasB tw ws is
 |_,_=>false
theorem has_of{tw:List Jvm.Cond}:∀ {ws:List Jvm.Cond} {is:List Nat},hasB tw ws is=true→∀w∈ws,w∈tw
 |[],[],_,w,h=>by cases h
 |w::ws,i::is,h,v,hv=>by
  simp only[hasB,Bool.and_eq_true,decide_eq_true_eq] at h
  rcases List.mem_cons.mp hv with rfl | q
  ·exact List.mem_of_getElem? h.1
  ·exact has_of h.2 v q
 |[],_::_,h,w,hw=>by cases hw
 |_::_,[],h,w,hw=>by cases h
def iniS(iv:List (Nat×Int)):MS:=iv.foldl (fun S q=>upd S 0 q.1 (Int32.ofInt q.2)) (fun _ _=>0)
theorem iniS_spec(iv:List (Nat×Int)):(∀i,iniS iv 0 i=finG (fun _=>0) iv i)∧∀c i,iniS iv (c+1) i=0:=by
 have key:∀(iv:List (Nat×Int)) (S:MS) (g:Nat→Int32),(∀i,S 0 i=g i)→(∀c i,S (c+1) i=0)→(∀i,(iv.foldl (fun S q=>upd S 0 q.1 (Int32.ofInt q.2)) S) 0 i=finG g iv i)∧∀c i,(iv.foldl (fun S q=>upd S 0 q.1 (Int32.ofInt q.2)) S) (c+1) i=0:=by
  intro iv
  induction iv with
  |nil=>intro S g h1 h2;exact⟨h1,h2⟩
  |cons q r ih=>
   intro S g h1 h2
   refine ih (upd S 0 q.1 (Int32.ofInt q.2)) (fun i=>if i=q.1 then Int32.ofInt q.2 else g i) (fun i=>?_) (fun c i=>?_)
   ·simp only[upd,true_and,h1]
   ·simp only[upd,h2]
    rw[if_neg (by simp)]
 exact key iv (fun _ _=>0) (fun _=>0) (fun _=>rfl) (fun _ _=>rfl)
abbrev Fix1(arrs:List (FieldType×Nat))(ms:List Mth)(f1:Cfg MS→Option (Res MS)):Prop:=∀c,f1 c=run (plan (cdOf ms) (rtOf ms) (mop1 arrs gS upd) (cop1 (naOf ms) (fun k=>(miOf ms k).2.2.1) (wmOf ms))) f1 c
abbrev Fix2(ms ms2:List Mth)(iv:List (Nat×Int))(pe nmax:Nat)(sc:Option (List Int32))(f1:Cfg MS→Option (Res MS))(f2:Cfg (W2 MS)→Option (Res (W2 MS))):Prop:=
 ∀c,f2 c=run (plan (cdOf ms2) (rtOf ms2) (mop2 f1 (iniS iv) pe nmax (naOf ms) (fun k=>(miOf ms k).2.2.1) (wmOf ms2) sc) (cop2 (naOf ms2) (fun k=>(miOf ms2 k).2.2.1) (wmOf ms2))) f2 c
set_option maxHeartbeats 1000000 in
theorem law_of{C own:String}{fs:Nat}{gds:List (String×String)}{fds:List (String×String×Nat)}{arrs:List (FieldType×Nat)}{fa:Bool}{items:List Item}{pe oi:Nat}{iv:List (Nat×Int)}{Tb Tb2:Tabs}{ms ms2:List Mth}{Z:State}{a0:Array Value}{l:Launch}{tw:List Jvm.Cond}{is1 is2:List Nat}{nmax:Nat}
  (hD:data1 (C,fs,gds,fds,arrs,fa,items,pe,oi,iv,Tb,ms)=true) (hG1:goodB Tb ms=true) (hR1:roomB ms ms callVk=true) (hD2:data2 C own ms ms2 Tb2=true) (hG2:goodB Tb2 ms2=true) (hRv:roomB ms2 ms callVk=true) (hRc:roomB ms2 ms callCk=true) (hRs:roomB ms2 ms2 callSk=true)
  (hb1:hasB tw (needs1 (C,fs,gds,fds,arrs,fa,items,pe,oi,iv,Tb,ms)) is1=true) (hb2:hasB tw (needs2 C own ms ms2 Tb2) is2=true) (hw:∀d∈tw,d.before a0 Z=true)
  {as:List Value} (hok:okv as=true) (hlen:(entL as).length≤(miOf ms2 0).2.2.1) {rm:Room} (hfr:(miOf ms2 0).2.2.2.1≤rm.frames) (hlw:(miOf ms2 0).2.2.2.2≤rm.locals) (hcl:nmax*(arrs.length+1)≤rm.cells) (hsl:nmax*(fs+slotSum arrs arrs.length)≤rm.slots) {h:Heap} {sa:Nat} {sc:Option (List Int32)}
  (hsc:∀xs,sc=some xs→sa<h.size∧xs.length<2147483648∧∃cell,Arr Z h sa cell .int∧cell.slots.size=xs.length∧∀i,i<xs.length→cell.slots[i]? = some (.int (xs.getD i 0)))
  {v:Option Value} (hrun:∀f1 f2,Fix1 arrs ms f1→Fix2 ms ms2 iv pe nmax sc f1 f2→∃W,f2 (0,0,entL as,[],(false,[]))=some (v,W)) (ws:List Jvm.Cond) :
  MetFree l (miOf ms2 0).1 (head1 (Cond.code (miOf ms2 0).1 (miOf ms2 0).2.1 (miOf ms2 0).2.2.1 (rtOf ms2 0)::ws) rm)
   (fun A U=>A=(as.map (cv (rho2 (arrs.length+1) (sa,h.size,0,0)))).toArray∧Z.Warmed39 U.vm∧U.heap=h) (fun _ _ _ _ _=>True)
   (fun _ U o U'=>∃v' L,o = .returned v'∧(v'=v∧Fr h.size L)∧FrameEnd U o U' L rm.cells rm.slots):=by
 have hw1:∀w∈needs1 (C,fs,gds,fds,arrs,fa,items,pe,oi,iv,Tb,ms),w.before a0 Z=true:=fun w h=>hw w (has_of hb1 w h)
 have hw2:∀w∈needs2 C own ms ms2 Tb2,w.before a0 Z=true:=fun w h=>hw w (has_of hb2 w h)
 obtain⟨B,hM⟩:=base_of hD hw1
 simp only[data2,Bool.and_eq_true,decide_eq_true_eq,List.all_eq_true] at hD2
 obtain⟨⟨⟨⟨⟨⟨d1,d2⟩,d3⟩,d4⟩,d5⟩,d6⟩,d7⟩:=hD2
 have u1:∀q∈Tb2.2.2.2.2.2.1,(Jvm.Cond.classLink own q.1 C).before a0 Z=true:=fun q hq=>hw2 _ (by
  simp only[needs2,List.mem_append]
  exact Or.inl (Or.inl (Or.inl (Or.inl (Or.inl (List.mem_map.mpr ⟨q,hq,rfl⟩))))))
 have u2:∀q∈Tb2.2.2.2.2.2.2,(Jvm.Cond.methodLink own q.1 (ms.getD 0 m0).1).before a0 Z=true:=fun q hq=>hw2 _ (by
  simp only[needs2,List.mem_append]
  exact Or.inl (Or.inl (Or.inl (Or.inl (Or.inr (List.mem_map.mpr ⟨q,hq,rfl⟩))))))
 have u3:∀q∈Tb2.2.1,(Jvm.Cond.methodLink own q.1 (ms.getD q.2 m0).1).before a0 Z=true:=fun q hq=>hw2 _ (by
  simp only[needs2,List.mem_append]
  exact Or.inl (Or.inl (Or.inl (Or.inr (List.mem_map.mpr ⟨q,hq,rfl⟩)))))
 have u4:∀q∈Tb2.2.2.1,∀w∈[Jvm.Cond.methodLink own q.1 (ms2.getD q.2 m0).1,.static (ms2.getD q.2 m0).1,.initialized own,.code (ms2.getD q.2 m0).1 (ms2.getD q.2 m0).2.1 (ms2.getD q.2 m0).2.2.1 (ms2.getD q.2 m0).2.2.2.2.2.1],w.before a0 Z=true:=fun q hq w hw'=>hw2 _ (by
  simp only[needs2,List.mem_append]
  exact Or.inl (Or.inl (Or.inr (List.mem_flatMap.mpr ⟨q,hq,hw'⟩))))
 have u5:∀q∈Tb2.2.2.2.1,(Jvm.Cond.constant own q.1 q.2).before a0 Z=true:=fun q hq=>hw2 _ (by
  simp only[needs2,List.mem_append]
  exact Or.inl (Or.inr (List.mem_map.mpr ⟨q,hq,rfl⟩)))
 have u6:∀q∈Tb2.2.2.2.2.1,(Jvm.Cond.constantLong own q.1 q.2).before a0 Z=true:=fun q hq=>hw2 _ (by
  simp only[needs2,List.mem_append]
  exact Or.inr (List.mem_map.mpr ⟨q,hq,rfl⟩))
 have v0:(Jvm.Cond.instanceMethod (ms.getD 0 m0).1).before a0 Z=true:=hw1 _ (by simp[needs1])
 have v1:(Jvm.Cond.code (ms.getD 0 m0).1 (ms.getD 0 m0).2.1 (ms.getD 0 m0).2.2.1 none).before a0 Z=true:=hw1 _ (by simp[needs1])
 have hdD:=hD
 simp only[data1,Bool.and_eq_true,decide_eq_true_eq] at hdD
 have h9:∀q∈Tb.2.1,(1≤q.2∧q.2<ms.length)∧(ms.getD q.2 m0).1.cls=C:=by
  have:=hdD.1.1.1.1.1.1.1.1.1.1.1.1.1.2
  simpa only [List.all_eq_true,Bool.and_eq_true,decide_eq_true_eq] using this
 have wl1:∀q∈Tb.2.1,(Jvm.Cond.methodLink C q.1 (ms.getD q.2 m0).1).before a0 Z=true:=fun q hq=>hw1 _ (by
  simp only[needs1,List.mem_append]
  exact Or.inl (Or.inl (Or.inl (Or.inr (List.mem_map.mpr ⟨q,hq,rfl⟩)))))
 have B':=B
 obtain⟨⟨K,-,hCs,-,wz⟩,⟨hpn,hC,-,-,-⟩,-⟩:=B'
 have W1:∀n,Walks (cdOf ms) (rtOf ms) (mop1 arrs gS upd) (cop1 (naOf ms) (fun k=>(miOf ms k).2.2.1) (wmOf ms)) (miOf ms) C Z l rho1 (J1 C fds arrs Z gS) n:=
  walks (cdOf ms) (rtOf ms) _ _ Tb (miOf ms) C Z l rho1 _ hCs (good_of hG1) (mop1_ok K upd_law)
   (cop1_ok K hpn wz hC (fun k idx hk=>hM C k idx Tb (fun idx' h'=>wl1 _ h') hk (h9 _ hk).2 (by have:=(h9 _ hk).1.1;simp only at this;omega)) (fun mm pc k pn kp hc=>room_of hR1 hc rfl))
 obtain⟨f1,hf1,hi1⟩:=exists_fix (plan (cdOf ms) (rtOf ms) (mop1 arrs gS upd) (cop1 (naOf ms) (fun k=>(miOf ms k).2.2.1) (wmOf ms)))
 have hcst2:Cst Tb2 Z a0 own:=⟨fun k v hq=>u5 _ hq,fun k v hq=>u6 _ hq⟩
 have hsta:StaOK Tb2 Z a0 (miOf ms2) (rtOf ms2) own (naOf ms2):=by
  intro idx k hk
  have hlt:=d6 _ hk
  simp only at hlt
  have e:ms2.getD k m0=ms2[k]:=by simp[List.getD,hlt]
  obtain⟨q1,q2⟩:=d4 ms2[k] (List.getElem_mem hlt)
  rw[←e] at q1 q2
  refine⟨q1,u4 _ hk _ (List.mem_cons_self ..),u4 _ hk _ (List.mem_cons_of_mem _ (List.mem_cons_self ..)),u4 _ hk _ (List.mem_cons_of_mem _ (List.mem_cons_of_mem _ (List.mem_cons_self ..))),u4 _ hk _ (List.mem_cons_of_mem _ (List.mem_cons_of_mem _ (List.mem_cons_of_mem _ (List.mem_cons_self ..)))),?_⟩
  unfold descB at q2
  split at q2
  ·rename_i ps r hp
   simp only[Bool.and_eq_true,decide_eq_true_eq] at q2
   refine⟨ps,?_,q2.2⟩
   rw[show rtOf ms2 k=r from q2.1.symm]
   exact hp
  ·cases q2
 obtain⟨z1,z2⟩:=iniS_spec iv
 have rV:∀mm pc k pn kp,cdOf ms2 mm pc=some (.invokevirtual k,pn,kp)→Room2 (miOf ms) (miOf ms2) (wmOf ms2) mm k:=fun mm pc k pn kp hc=>room_of (callees:=ms) (k:=k) hRv hc rfl
 have rC:∀mm pc k pn kp,cdOf ms2 mm pc=some (.invokespecial k,pn,kp)→Room2 (miOf ms) (miOf ms2) (wmOf ms2) mm 0:=fun mm pc k pn kp hc=>room_of (callees:=ms) (k:=0) hRc hc rfl
 have hvm:∀k idx,(idx,k)∈Tb2.2.1→MthOK C Tb2 Z a0 (miOf ms) (rtOf ms) own k (naOf ms):=fun k idx hk=>hM own k idx Tb2 (fun idx' h'=>u3 _ h') hk (d5 _ hk).2 (d5 _ hk).1
 have hnw:∀idx q,(idx,q)∈Tb2.2.2.2.2.2.1→(Cond.classLink own idx C).before a0 Z=true:=fun idx q hq=>u1 (idx,q) hq
 have hcw:CtW Z a0 Tb2 own (miOf ms 0).1 (miOf ms 0).2.1 (miOf ms 0).2.2.1:=⟨fun idx q hq=>u2 _ hq,v0,v1⟩
 have hmop:MopOK (cdOf ms2) (rtOf ms2) (mop2 f1 (iniS iv) pe nmax (naOf ms) (fun k=>(miOf ms k).2.2.1) (wmOf ms2) sc) Tb2 (miOf ms2) own Z l (rho2 (arrs.length+1)) (J2 C gds fds arrs Z gS fs nmax sc):=
  mop2_ok (σ:=MS) (C:=C) (gds:=gds) (fds:=fds) (arrs:=arrs) (Z:=Z) (G:=gS) (fs:=fs) (nmax:=nmax) (sc:=sc) (Tb1:=Tb) (Tb2:=Tb2) (a0:=a0) (mi1:=miOf ms) (mi2:=miOf ms2) (rt1:=rtOf ms) (rt2:=rtOf ms2) (l:=l) (own:=own) (na1:=naOf ms) (wm2:=wmOf ms2) (code1:=cdOf ms) (items:=items) (pe:=pe) (oi:=oi) (Z0:=iniS iv) (iv:=iv) (code2:=cdOf ms2) (f1:=f1) B W1 hi1 z1 z2 hnw hcw hvm rV rC
 have hcop:CopOK (cdOf ms2) (rtOf ms2) (mop2 f1 (iniS iv) pe nmax (naOf ms) (fun k=>(miOf ms k).2.2.1) (wmOf ms2) sc) (cop2 (naOf ms2) (fun k=>(miOf ms2 k).2.2.1) (wmOf ms2)) Tb2 (miOf ms2) own Z l (rho2 (arrs.length+1)) (J2 C gds fds arrs Z gS fs nmax sc):=
  cop2_ok (σ:=MS) (C:=C) (gds:=gds) (fds:=fds) (arrs:=arrs) (Z:=Z) (G:=gS) (fs:=fs) (nmax:=nmax) (sc:=sc) (Tb2:=Tb2) (a0:=a0) (mi2:=miOf ms2) (rt2:=rtOf ms2) (l:=l) (own:=own) (na2:=naOf ms2) (wm2:=wmOf ms2) (code2:=cdOf ms2) d3 ⟨d1,d2⟩ hsta (fun mm pc k pn kp hc=>room_of hRs hc rfl)
 have W2':∀n,Walks (cdOf ms2) (rtOf ms2) (mop2 f1 (iniS iv) pe nmax (naOf ms) (fun k=>(miOf ms k).2.2.1) (wmOf ms2) sc) (cop2 (naOf ms2) (fun k=>(miOf ms2 k).2.2.1) (wmOf ms2)) (miOf ms2) own Z l (rho2 (arrs.length+1)) (J2 C gds fds arrs Z gS fs nmax sc) n:=
  walks (cdOf ms2) (rtOf ms2) _ _ Tb2 (miOf ms2) own Z l (rho2 (arrs.length+1)) _ hcst2 (good_of hG2) hmop hcop
 obtain⟨f2,hf2,hi2⟩:=exists_fix (plan (cdOf ms2) (rtOf ms2) (mop2 f1 (iniS iv) pe nmax (naOf ms) (fun k=>(miOf ms k).2.2.1) (wmOf ms2) sc) (cop2 (naOf ms2) (fun k=>(miOf ms2 k).2.2.1) (wmOf ms2)))
 obtain⟨W,hW⟩:=hrun f1 f2 hf1 hf2
 obtain⟨n,hn⟩:=hi2 _ _ hW
 have e:ms2.getD 0 m0=ms2[0]:=by simp[List.getD,d7]
 have q1:=(d4 ms2[0] (List.getElem_mem d7)).1
 rw[←e] at q1
 have q1':(miOf ms2 0).1.cls=own:=q1
 exact top (W2' n) d3 q1' hok hlen hn hfr hlw hcl hsl hsc ws
def evB(o:Jvm.Binary)(x y:Int32):Int32:=match o with
 | .iand=>x&&&y
 | .ior=>x|||y
 | .ixor=>x^^^y
 | .ishl=>x<<<(y&&&31)
 | .ishr=>x>>>(y&&&31)
 | .iushr=>XT.ushr x y
 |_=>0
def evU(o:Jvm.Unary)(x:Int32):Int32:=match o with
 | .ineg => -x
 | .i2b=>x.toInt8.toInt32
 |_=>0
def ev(ρ:Nat→Int32):Jvm.Term→Int32
 | .int v=>v
 | .arg i=>ρ i
 | .add a b=>ev ρ a+ev ρ b
 | .sub a b=>ev ρ a-ev ρ b
 | .mul a b=>ev ρ a*ev ρ b
 | .div a b=>ev ρ a/ev ρ b
 | .rem a b=>ev ρ a%ev ρ b
 | .op2 o a b=>evB o (ev ρ a) (ev ρ b)
 | .op1 o a=>evU o (ev ρ a)
 |_=>0
def cst(t:Jvm.Term):Option Int32:=match t with
 | .int v=>some v
 |_=>none
abbrev SV:=Jvm.Term⊕Value
abbrev SL:=List SV
def cs(ρ:Nat→Int32):SV→Value
 | .inl t => .int (ev ρ t)
 | .inr v=>v
section Alu
variable {ρ:Nat→Int32} {st st' ls:SL}
abbrev two(ρ:Nat→Int32)(q:SL×SL):List Value×List Value:=(q.1.map (cs ρ),q.2.map (cs ρ))
variable {q:SL×SL} {k:Nat}
def pr(ls:SL)(o:Option SL):Option (SL×SL):=o.map fun st'=>(ls,st')
end Alu
abbrev Fct:=Bool×Jvm.Term×Jvm.Term×Bool
abbrev Pth:=List Fct
abbrev Rng:=Int×Int
def full:Rng:=(-2147483648,2147483647)
def one(x:Int32):Rng:=(x.toInt,x.toInt)
def tg(t:Jvm.Term):Nat:=match t with
 | .int _=>0
 | .arg _=>1
 | .add _ _=>2
 | .sub _ _=>3
 | .mul _ _=>4
 | .op2 _ _ _=>5
 |_=>6
section Paths
variable {ρ:Nat→Int32}
def g0(t:Jvm.Term):Rng:=match cst t with
 |some c=>one c
 |none=>full
theorem and_le{x c:Int32}(h:0≤c.toInt):0≤(x&&&c).toInt∧(x&&&c).toInt≤c.toInt:=by
 have e:∀y:Int32,y.toInt=if 2*y.toBitVec.toNat<2 ^ 32 then (y.toBitVec.toNat:Int) else (y.toBitVec.toNat:Int)-(2 ^ 32:Nat):=fun y=>BitVec.toInt_eq_toNat_cond y.toBitVec
 have hn:(x&&&c).toBitVec.toNat≤c.toBitVec.toNat:=by
  rw[Int32.toBitVec_and,BitVec.toNat_and]
  exact Nat.and_le_right
 have hl:=c.toBitVec.isLt
 have hc:=e c
 have ha:=e (x&&&c)
 split at hc<;>split at ha<;>omega
end Paths
abbrev CF:=Nat×Nat×SL×SL
abbrev SS:=List (List (List Jvm.Term))
def setC{α β:Type}(d:α):List α→Nat→α→(List α→β)→β
 |[],0,v,k=>k [v]
 |[],n+1,v,k=>setC d [] n v fun r=>k (d::r)
 |_::r,0,v,k=>k (v::r)
 |x::r,n+1,v,k=>setC d r n v fun r'=>k (x::r')
def fN{β:Type}(n:Nat)(k:Nat→β):β:=match n with
 |0=>k 0
 |n+1=>k (n+1)
def fI{β:Type}(x:Int32)(k:Int32→β):β:=fN x.toBitVec.toNat fun n=>k (Int32.ofBitVec (BitVec.ofNat 32 n))
def fT{β:Type}(t:Jvm.Term)(k:Jvm.Term→β):β:=match cst t with
 |some x=>fI x fun y=>k (.int y)
 |none=>k t
def wr{β:Type}(S:SS)(c i:Nat)(v:Jvm.Term)(k:SS→β):β:=fT v fun v=>fN (i/16) fun a=>fN (i%16) fun b=>setC (.int 0) ((S.getD c []).getD a []) b v fun l=>setC [] (S.getD c []) a l fun r=>setC [] S c r k
def tkS:Nat→SL→SL→Option (SL×SL)
 |0,acc,st=>some (acc,st)
 |n+1,acc,v::st=>tkS n (v::acc) st
 |_+1,_,[]=>none
def okns:SL→Bool
 |[]=>true
 | .inl _::r=>okns r
 | .inr (.long _)::r=>okns r
 |_::_=>false
def okvs:SL→Bool
 |[]=>true
 | .inl _::r=>okvs r
 | .inr (.long _)::r=>okvs r
 | .inr (.ref _)::r=>okvs r
 |_::_=>false
def catS:SV→Nat
 | .inl _=>1
 | .inr v=>v.category
def catsS:SL→Nat
 |[]=>0
 |v::r=>catS v+catsS r
def entLs:SL→SL
 |[]=>[]
 | .inr (.long v)::r => .inr (.long v) :: .inr .null::entLs r
 |v::r=>v::entLs r
abbrev Fr:=Nat×Nat×SL×SL
abbrev Ctx:=List Fr×Option Nat×List SS×Bool×List Fr
abbrev Rec:=Pth→Bool→CF→SS→Ctx→Bool
section Whole
variable (cd1 cd2:Codes) (rt1 rt2:Nat→Option FieldType) (arrs:List (FieldType×Nat)) (na1 ml1 wm1 na2 ml2 wm2:Nat→Nat) (Z0:SS) (pe nmax:Nat) (fin:Pth→Option SV→SS→Bool) (hv:Nat→Nat→Option Nat)
def s2new(r:Rec)(P:Pth)(m pn:Nat)(ls st:SL)(ob:List SS)(raw:Bool)(K2:List Fr):Bool:=match raw with
 |true=>false
 |false=>if (Nat.beq m 0&&Nat.blt ob.length nmax)=true then r P false (m,pn,ls,.inr (.ref (ob.length+1))::st) [] ([],none,ob,true,K2) else false
def s2ct(r:Rec)(P:Pth)(m pn:Nat)(ls st:SL)(ob:List SS)(raw:Bool)(K2:List Fr):Bool:=match raw with
 |false=>false
 |true=>(match tkS (na1 0) [] st with
  |some (as,.inr (.ref x)::rs)=>if (Nat.beq m 0&&Nat.beq x (ob.length+1)&&okns as&&Nat.ble (catsS rs) (wm2 m)&&Nat.ble (entLs (.inr (.ref 0)::as)).length (ml1 0))=true then r P true (0,pe,entLs (.inr (.ref 0)::as),[]) Z0 ([],none,ob,false,(m,pn,ls,rs)::K2) else false
  |_=>false)
def s2vt(r:Rec)(P:Pth)(k m pn:Nat)(ls st:SL)(ob:List SS)(raw:Bool)(K2:List Fr):Bool:=match raw with
 |true=>false
 |false=>(match tkS (na1 k) [] st with
  |some (as,.inr (.ref (j+1))::rs)=>(match ob[j]? with
   |some S=>if (okns as&&Nat.ble (catsS rs) (wm2 m)&&Nat.ble (entLs (.inr (.ref 0)::as)).length (ml1 k))=true then r P true (k,0,entLs (.inr (.ref 0)::as),[]) S ([],some j,ob,false,(m,pn,ls,rs)::K2) else false
   |none=>false)
  |_=>false)
def s2st(r:Rec)(P:Pth)(k m pn:Nat)(ls st:SL)(ob:List SS)(raw:Bool)(K2:List Fr):Bool:=match tkS (na2 k) [] st with
 |some (as,rs)=>if (!(Nat.beq k 0)&&okvs as&&Nat.ble (catsS rs) (wm2 m)&&Nat.ble (entLs as).length (ml2 k))=true then r P false (k,0,entLs as,[]) [] ([],none,ob,raw,(m,pn,ls,rs)::K2) else false
 |none=>false
abbrev Lhd:=Rec→Pth→Nat→Nat→SL→SL→List SS→Bool→List Fr→Bool
def s2(i:Instr):Option Lhd:=match i with
 | .new _=>some fun r P m pn ls st ob raw K2=>s2new nmax r P m pn ls st ob raw K2
 | .invokespecial _=>some fun r P m pn ls st ob raw K2=>s2ct na1 ml1 wm2 Z0 pe r P m pn ls st ob raw K2
 | .invokevirtual k=>some fun r P m pn ls st ob raw K2=>s2vt na1 ml1 wm2 r P k m pn ls st ob raw K2
 | .invokestatic k=>some fun r P m pn ls st ob raw K2=>s2st na2 ml2 wm2 r P k m pn ls st ob raw K2
 |_=>none
end Whole
abbrev K4:=Nat×Nat×List Value×List Value
abbrev HF{τ:Type}(code:Codes)(rt:Nat→Option FieldType)(mop:Mop τ)(cop:Cop)(f:Cfg τ→Option (Res τ)):Prop:=∀c,f c=run (plan code rt mop cop) f c
section S0
variable {τ:Type} {code:Codes} {rt:Nat→Option FieldType} {mop:Mop τ} {cop:Cop} {f:Cfg τ→Option (Res τ)} {m pc pn k t a:Nat} {kp:Option Nat} {ls st:List Value} {S:τ} {R R':Option (Res τ)} {x y v v':Int32} {X Y:Int64} {i:Instr} {c:Int}
theorem Jr(hf:HF code rt mop cop f)(h:code m pc=some (i,pn,some k))(r:f (m,pc,ls.take k,st,S)=R):f (m,pc,ls,st,S)=R:=(F.head hf h).trans r
theorem Jt(hf:HF code rt mop cop f)(h:code m pc=some (.iadd,pn,kp))(r:f (m,pn,ls,.int (x+y)::st,S)=R)(hk:tk kp ls=ls:=by rfl):f (m,pc,ls,.int y :: .int x::st,S)=R:=(F.iadd hf h hk).trans r
theorem JG(hf:HF code rt mop cop f)(h:code m pc=some (.isub,pn,kp))(r:f (m,pn,ls,.int (x-y)::st,S)=R)(hk:tk kp ls=ls:=by rfl):f (m,pc,ls,.int y :: .int x::st,S)=R:=(F.isub hf h hk).trans r
theorem Jz(hf:HF code rt mop cop f)(h:code m pc=some (.imul,pn,kp))(r:f (m,pn,ls,.int (x*y)::st,S)=R)(hk:tk kp ls=ls:=by rfl):f (m,pc,ls,.int y :: .int x::st,S)=R:=(F.imul hf h hk).trans r
theorem Ju(hf:HF code rt mop cop f)(h:code m pc=some (.iand,pn,kp))(r:f (m,pn,ls,.int (x&&&y)::st,S)=R)(hk:tk kp ls=ls:=by rfl):f (m,pc,ls,.int y :: .int x::st,S)=R:=(F.iand hf h hk).trans r
theorem JZ(hf:HF code rt mop cop f)(h:code m pc=some (.ior,pn,kp))(r:f (m,pn,ls,.int (x|||y)::st,S)=R)(hk:tk kp ls=ls:=by rfl):f (m,pc,ls,.int y :: .int x::st,S)=R:=(F.ior hf h hk).trans r
theorem JJ(hf:HF code rt mop cop f)(h:code m pc=some (.ishl,pn,kp))(r:f (m,pn,ls,.int (x<<<(y&&&31))::st,S)=R)(hk:tk kp ls=ls:=by rfl):f (m,pc,ls,.int y :: .int x::st,S)=R:=(F.ishl hf h hk).trans r
theorem JW(hf:HF code rt mop cop f)(h:code m pc=some (.ishr,pn,kp))(r:f (m,pn,ls,.int (x>>>(y&&&31))::st,S)=R)(hk:tk kp ls=ls:=by rfl):f (m,pc,ls,.int y :: .int x::st,S)=R:=(F.ishr hf h hk).trans r
theorem JR(hf:HF code rt mop cop f)(h:code m pc=some (.iushr,pn,kp))(r:f (m,pn,ls,.int (XT.ushr x y)::st,S)=R)(hk:tk kp ls=ls:=by rfl):f (m,pc,ls,.int y :: .int x::st,S)=R:=(F.iushr hf h hk).trans r
theorem Jad(hf:HF code rt mop cop f)(h:code m pc=some (.idiv,pn,kp))(hy:y≠0)(r:f (m,pn,ls,.int (x/y)::st,S)=R)(hk:tk kp ls=ls:=by rfl):f (m,pc,ls,.int y :: .int x::st,S)=R:=(F.idiv hf h hk hy).trans r
theorem JX(hf:HF code rt mop cop f)(h:code m pc=some (.irem,pn,kp))(hy:y≠0)(r:f (m,pn,ls,.int (x%y)::st,S)=R)(hk:tk kp ls=ls:=by rfl):f (m,pc,ls,.int y :: .int x::st,S)=R:=(F.irem hf h hk hy).trans r
theorem J7(hf:HF code rt mop cop f)(h:code m pc=some (.land,pn,kp))(r:f (m,pn,ls,.long (X&&&Y)::st,S)=R)(hk:tk kp ls=ls:=by rfl):f (m,pc,ls,.long Y :: .long X::st,S)=R:=(F.land hf h hk).trans r
theorem Jah(hf:HF code rt mop cop f)(h:code m pc=some (.lor,pn,kp))(r:f (m,pn,ls,.long (X|||Y)::st,S)=R)(hk:tk kp ls=ls:=by rfl):f (m,pc,ls,.long Y :: .long X::st,S)=R:=(F.lor hf h hk).trans r
theorem Jaj(hf:HF code rt mop cop f)(h:code m pc=some (.lshl,pn,kp))(r:f (m,pn,ls,.long (X<<<(y.toInt64&&&63))::st,S)=R)(hk:tk kp ls=ls:=by rfl):f (m,pc,ls,.int y :: .long X::st,S)=R:=(F.lshl hf h hk).trans r
theorem Jak(hf:HF code rt mop cop f)(h:code m pc=some (.lushr,pn,kp))(r:f (m,pn,ls,.long (XT.ushrL X y)::st,S)=R)(hk:tk kp ls=ls:=by rfl):f (m,pc,ls,.int y :: .long X::st,S)=R:=(F.lushr hf h hk).trans r
theorem JV(hf:HF code rt mop cop f)(h:code m pc=some (.i2l,pn,kp))(r:f (m,pn,ls,.long x.toInt64::st,S)=R)(hk:tk kp ls=ls:=by rfl):f (m,pc,ls,.int x::st,S)=R:=(F.i2l hf h hk).trans r
theorem Jan(hf:HF code rt mop cop f)(h:code m pc=some (.l2i,pn,kp))(r:f (m,pn,ls,.int X.toInt32::st,S)=R)(hk:tk kp ls=ls:=by rfl):f (m,pc,ls,.long X::st,S)=R:=(F.l2i hf h hk).trans r
theorem JO(hf:HF code rt mop cop f)(h:code m pc=some (.dup,pn,kp))(r:f (m,pn,ls,.ref a :: .ref a::st,S)=R)(hk:tk kp ls=ls:=by rfl):f (m,pc,ls,.ref a::st,S)=R:=(F.dupA hf h hk).trans r
theorem JN(hf:HF code rt mop cop f)(h:code m pc=some (.pop,pn,kp))(r:f (m,pn,ls,st,S)=R)(hk:tk kp ls=ls:=by rfl):f (m,pc,ls,.int x::st,S)=R:=(F.popI hf h hk).trans r
theorem Jc(hf:HF code rt mop cop f)(h:code m pc=some (.iconst c,pn,kp))(hv:Int32.ofInt c=v)(r:f (m,pn,ls,.int v::st,S)=R)(hk:tk kp ls=ls:=by rfl):f (m,pc,ls,st,S)=R:=(F.iconst hf h hk hv).trans r
theorem JT(hf:HF code rt mop cop f){i:Fin 2}(h:code m pc=some (.lconst i,pn,kp))(hv:Int64.ofNat i=X)(r:f (m,pn,ls,.long X::st,S)=R)(hk:tk kp ls=ls:=by rfl):f (m,pc,ls,st,S)=R:=(F.lconst hf h hk hv).trans r
theorem J5(hf:HF code rt mop cop f)(h:code m pc=some (.ldc2_w k,pn,kp))(hv:Int64.ofNat k=X)(r:f (m,pn,ls,.long X::st,S)=R)(hk:tk kp ls=ls:=by rfl):f (m,pc,ls,st,S)=R:=(F.ldcJ hf h hk hv).trans r
theorem Jb(hf:HF code rt mop cop f)(h:code m pc=some (.iload k,pn,kp))(hl:ls[k]? = some (.int v))(r:f (m,pn,ls,.int v::st,S)=R)(hk:tk kp ls=ls:=by rfl):f (m,pc,ls,st,S)=R:=(F.iload hf h hk hl).trans r
theorem Jd(hf:HF code rt mop cop f)(h:code m pc=some (.aload k,pn,kp))(hl:ls[k]? = some (.ref a))(r:f (m,pn,ls,.ref a::st,S)=R)(hk:tk kp ls=ls:=by rfl):f (m,pc,ls,st,S)=R:=(F.aload hf h hk hl).trans r
theorem JH(hf:HF code rt mop cop f)(h:code m pc=some (.lload k,pn,kp))(hl:ls[k]? = some (.long X))(r:f (m,pn,ls,.long X::st,S)=R)(hk:tk kp ls=ls:=by rfl):f (m,pc,ls,st,S)=R:=(F.lload hf h hk hl).trans r
theorem Je(hf:HF code rt mop cop f)(h:code m pc=some (.istore k,pn,kp))(l:List Value)(r:f (m,pn,l,st,S)=R)(hk:tk kp ls=ls:=by rfl)(hl:st1 ls k (.int v)=l:=by rfl):f (m,pc,ls,.int v::st,S)=R:=(F.istore hf h hk hl).trans r
theorem Jaa(hf:HF code rt mop cop f)(h:code m pc=some (.astore k,pn,kp))(l:List Value)(r:f (m,pn,l,st,S)=R)(hk:tk kp ls=ls:=by rfl)(hl:st1 ls k (.ref a)=l:=by rfl):f (m,pc,ls,.ref a::st,S)=R:=(F.astore hf h hk hl).trans r
theorem JM(hf:HF code rt mop cop f)(h:code m pc=some (.lstore k,pn,kp))(l:List Value)(r:f (m,pn,l,st,S)=R)(hk:tk kp ls=ls:=by rfl)(hl:st2 ls k (.long X)=l:=by rfl):f (m,pc,ls,.long X::st,S)=R:=(F.lstore hf h hk hl).trans r
theorem Jn(hf:HF code rt mop cop f)(h:code m pc=some (.iinc k c,pn,kp))(hv:Int32.ofInt c=v')(hl0:ls[k]? = some (.int v))(l:List Value)(r:f (m,pn,l,st,S)=R)(hk:tk kp ls=ls:=by rfl)(hl:st1 ls k (.int (v+v'))=l:=by rfl):f (m,pc,ls,st,S)=R:=(F.iinc hf h hk hv hl0 hl).trans r
theorem Jh(hf:HF code rt mop cop f)(h:code m pc=some (.goto (Int.ofNat t),pn,kp))(r:f (m,t,ls,st,S)=R)(hk:tk kp ls=ls:=by rfl):f (m,pc,ls,st,S)=R:=(F.goto hf h hk).trans r
theorem Jy(hf:HF code rt mop cop f)(h:code m pc=some (.ifCond .eq (Int.ofNat t),pn,kp))(r:f (m,t,ls,st,S)=R)(r':f (m,pn,ls,st,S)=R')(hk:tk kp ls=ls:=by rfl):f (m,pc,ls,.int x::st,S)=if x=0 then R else R':=(F.ifeq hf h hk).trans (ite2 r r')
theorem JA(hf:HF code rt mop cop f)(h:code m pc=some (.if_icmp .eq (Int.ofNat t),pn,kp))(r:f (m,t,ls,st,S)=R)(r':f (m,pn,ls,st,S)=R')(hk:tk kp ls=ls:=by rfl):f (m,pc,ls,.int y :: .int x::st,S)=if x=y then R else R':=(F.iceq hf h hk).trans (ite2 r r')
theorem Js(hf:HF code rt mop cop f)(h:code m pc=some (.ifCond .ne (Int.ofNat t),pn,kp))(r:f (m,pn,ls,st,S)=R)(r':f (m,t,ls,st,S)=R')(hk:tk kp ls=ls:=by rfl):f (m,pc,ls,.int x::st,S)=if x=0 then R else R':=(F.ifne hf h hk).trans (ite2 r r')
theorem Jp(hf:HF code rt mop cop f)(h:code m pc=some (.if_icmp .ne (Int.ofNat t),pn,kp))(r:f (m,pn,ls,st,S)=R)(r':f (m,t,ls,st,S)=R')(hk:tk kp ls=ls:=by rfl):f (m,pc,ls,.int y :: .int x::st,S)=if x=y then R else R':=(F.icne hf h hk).trans (ite2 r r')
theorem JB(hf:HF code rt mop cop f)(h:code m pc=some (.ifCond .lt (Int.ofNat t),pn,kp))(r:f (m,t,ls,st,S)=R)(r':f (m,pn,ls,st,S)=R')(hk:tk kp ls=ls:=by rfl):f (m,pc,ls,.int x::st,S)=if x<0 then R else R':=(F.iflt hf h hk).trans (ite2 r r')
theorem JK(hf:HF code rt mop cop f)(h:code m pc=some (.if_icmp .lt (Int.ofNat t),pn,kp))(r:f (m,t,ls,st,S)=R)(r':f (m,pn,ls,st,S)=R')(hk:tk kp ls=ls:=by rfl):f (m,pc,ls,.int y :: .int x::st,S)=if x<y then R else R':=(F.iclt hf h hk).trans (ite2 r r')
theorem JQ(hf:HF code rt mop cop f)(h:code m pc=some (.ifCond .ge (Int.ofNat t),pn,kp))(r:f (m,pn,ls,st,S)=R)(r':f (m,t,ls,st,S)=R')(hk:tk kp ls=ls:=by rfl):f (m,pc,ls,.int x::st,S)=if x<0 then R else R':=(F.ifge hf h hk).trans (ite2 r r')
theorem Jm(hf:HF code rt mop cop f)(h:code m pc=some (.if_icmp .ge (Int.ofNat t),pn,kp))(r:f (m,pn,ls,st,S)=R)(r':f (m,t,ls,st,S)=R')(hk:tk kp ls=ls:=by rfl):f (m,pc,ls,.int y :: .int x::st,S)=if x<y then R else R':=(F.icge hf h hk).trans (ite2 r r')
theorem Jat(hf:HF code rt mop cop f)(h:code m pc=some (.ifCond .gt (Int.ofNat t),pn,kp))(r:f (m,t,ls,st,S)=R)(r':f (m,pn,ls,st,S)=R')(hk:tk kp ls=ls:=by rfl):f (m,pc,ls,.int x::st,S)=if 0<x then R else R':=(F.ifgt hf h hk).trans (ite2 r r')
theorem JU(hf:HF code rt mop cop f)(h:code m pc=some (.if_icmp .gt (Int.ofNat t),pn,kp))(r:f (m,t,ls,st,S)=R)(r':f (m,pn,ls,st,S)=R')(hk:tk kp ls=ls:=by rfl):f (m,pc,ls,.int y :: .int x::st,S)=if y<x then R else R':=(F.icgt hf h hk).trans (ite2 r r')
theorem Jac(hf:HF code rt mop cop f)(h:code m pc=some (.ifCond .le (Int.ofNat t),pn,kp))(r:f (m,pn,ls,st,S)=R)(r':f (m,t,ls,st,S)=R')(hk:tk kp ls=ls:=by rfl):f (m,pc,ls,.int x::st,S)=if 0<x then R else R':=(F.ifle hf h hk).trans (ite2 r r')
theorem JP(hf:HF code rt mop cop f)(h:code m pc=some (.if_icmp .le (Int.ofNat t),pn,kp))(r:f (m,pn,ls,st,S)=R)(r':f (m,t,ls,st,S)=R')(hk:tk kp ls=ls:=by rfl):f (m,pc,ls,.int y :: .int x::st,S)=if y<x then R else R':=(F.icle hf h hk).trans (ite2 r r')
theorem Jk(hf:HF code rt mop cop f)(h:code m pc=some (.return_,pn,kp))(hr:rt m=none:=by rfl):f (m,pc,ls,[],S)=some (none,S):=F.retn hf h hr
theorem Ji(hf:HF code rt mop cop f)(h:code m pc=some (.ireturn,pn,kp))(hr:rt m=some .int:=by rfl):f (m,pc,ls,[.int v],S)=some (some (.int v),S):=F.reti hf h hr
theorem J6(hf:HF code rt mop cop f)(h:code m pc=some (.ireturn,pn,kp))(hr:rt m=some .boolean:=by rfl):f (m,pc,ls,[.int v],S)=some (some (.int (v&&&1)),S):=F.retb hf h hr
theorem Jl(hf:HF code rt mop cop f)(h:code m pc=some (.ireturn,pn,kp))(hr:rt m=some .boolean:=by rfl):f (m,pc,ls,[.int 0],S)=some (some (.int 0),S):=F.retb hf h hr
theorem JC(hf:HF code rt mop cop f)(h:code m pc=some (.ireturn,pn,kp))(hr:rt m=some .boolean:=by rfl):f (m,pc,ls,[.int 1],S)=some (some (.int 1),S):=F.retb hf h hr
theorem Jav(hf:HF code rt mop cop f)(h:code m pc=some (.lreturn,pn,kp))(hr:rt m=some .long:=by rfl):f (m,pc,ls,[.long X],S)=some (some (.long X),S):=F.retl hf h hr
end S0
section S1
variable {code:Codes} {rt:Nat→Option FieldType} {arrs:List (FieldType×Nat)} {na ml wm:Nat→Nat} {f:Cfg MS→Option (Res MS)} {m pc pn j n k:Nat} {kp:Option Nat} {ls st:List Value} {S:MS} {R:Option (Res MS)} {v i:Int32} {ty:FieldType}
abbrev HF1(code:Codes)(rt:Nat→Option FieldType)(arrs:List (FieldType×Nat))(na ml wm:Nat→Nat)(f:Cfg MS→Option (Res MS)):Prop:=∀c,f c=run (plan code rt (mop1 arrs gS upd) (cop1 na ml wm)) f c
theorem Jj(hf:HF1 code rt arrs na ml wm f)(h:code m pc=some (.getfield k,pn,kp))(w:Int32)(r:f (m,pn,ls,.int w::st,S)=R)(hk:tk kp ls=ls:=by rfl)(h3:k%3≠2:=by decide)(hw:S 0 (k/3)=w:=by rfl):f (m,pc,ls,.ref 0::st,S)=R:=(F.getI hf h hk h3 rfl hw).trans r
theorem Jg(hf:HF1 code rt arrs na ml wm f)(h:code m pc=some (.getfield k,pn,kp))(r:f (m,pn,ls,.ref (k/3+1)::st,S)=R)(hk:tk kp ls=ls:=by rfl)(h3:k%3=2:=by rfl):f (m,pc,ls,.ref 0::st,S)=R:=(F.getA hf h hk h3 rfl).trans r
theorem Jw(hf:HF1 code rt arrs na ml wm f)(h:code m pc=some (.putfield k,pn,kp))(r:f (m,pn,ls,st,upd S 0 (k/3) v)=R)(hk:tk kp ls=ls:=by rfl)(h3:k%3=0:=by rfl):f (m,pc,ls,.int v :: .ref 0::st,S)=R:=(F.putI hf h hk h3 rfl).trans r
theorem Jax(hf:HF1 code rt arrs na ml wm f)(h:code m pc=some (.putfield k,pn,kp))(r:f (m,pn,ls,st,upd S 0 (k/3) 0)=R)(hk:tk kp ls=ls:=by rfl)(h3:k%3=1:=by rfl):f (m,pc,ls,.int 0 :: .ref 0::st,S)=R:=(F.putZ0 hf h hk h3 rfl).trans r
theorem Jay(hf:HF1 code rt arrs na ml wm f)(h:code m pc=some (.putfield k,pn,kp))(r:f (m,pn,ls,st,upd S 0 (k/3) 1)=R)(hk:tk kp ls=ls:=by rfl)(h3:k%3=1:=by rfl):f (m,pc,ls,.int 1 :: .ref 0::st,S)=R:=(F.putZ1 hf h hk h3 rfl).trans r
theorem Jo(hf:HF1 code rt arrs na ml wm f)(h:code m pc=some (.iaload,pn,kp))(ha:arrs[j]? = some (ty,n))(w:Int32)(r:inb i n=true→f (m,pn,ls,.int w::st,S)=R)(hk:tk kp ls=ls:=by rfl)(ht:isI ty=true:=by rfl)(hw:S (j+1) i.toNatClampNeg=w:=by rfl):f (m,pc,ls,.int i :: .ref (j+1)::st,S)=if inb i n=true then R else none:=(F.iaload hf h hk ha ht hw).trans (iteH r)
theorem JF(hf:HF1 code rt arrs na ml wm f)(h:code m pc=some (.iaload,pn,kp))(ha:arrs[j]? = some (ty,n))(hi:inb i n=true)(w:Int32)(r:f (m,pn,ls,.int w::st,S)=R)(hk:tk kp ls=ls:=by rfl)(ht:isI ty=true:=by rfl)(hw:S (j+1) i.toNatClampNeg=w:=by rfl):f (m,pc,ls,.int i :: .ref (j+1)::st,S)=R:=(F.ialoadT hf h hk ha ht hi rfl hw).trans r
theorem Jaz(hf:HF1 code rt arrs na ml wm f)(h:code m pc=some (.iaload,pn,kp))(ha:arrs[j]? = some (ty,n))(z:Nat)(w:Int32)(r:f (m,pn,ls,.int w::st,S)=R)(hk:tk kp ls=ls:=by rfl)(ht:isI ty=true:=by rfl)(hi:inb i n=true:=by first | decide | rfl)(hz:i.toNatClampNeg=z:=by first | decide | rfl)(hw:S (j+1) z=w:=by rfl):f (m,pc,ls,.int i :: .ref (j+1)::st,S)=R:=(F.ialoadT hf h hk ha ht hi hz hw).trans r
theorem J3(hf:HF1 code rt arrs na ml wm f)(h:code m pc=some (.baload,pn,kp))(ha:arrs[j]? = some (ty,n))(w:Int32)(r:inb i n=true→f (m,pn,ls,.int w::st,S)=R)(hk:tk kp ls=ls:=by rfl)(ht:isB ty=true:=by rfl)(hw:S (j+1) i.toNatClampNeg=w:=by rfl):f (m,pc,ls,.int i :: .ref (j+1)::st,S)=if inb i n=true then R else none:=(F.baload hf h hk ha ht hw).trans (iteH r)
theorem Jv(hf:HF1 code rt arrs na ml wm f)(h:code m pc=some (.iastore,pn,kp))(ha:arrs[j]? = some (ty,n))(w:Int32)(r:inb i n=true→f (m,pn,ls,st,upd S (j+1) i.toNatClampNeg w)=R)(hk:tk kp ls=ls:=by rfl)(ht:isI ty=true:=by rfl)(hv:nar ty v=w:=by first | rfl | decide):f (m,pc,ls,.int v :: .int i :: .ref (j+1)::st,S)=if inb i n=true then R else none:=(F.iastore hf h hk ha ht hv).trans (iteH r)
theorem Jx(hf:HF1 code rt arrs na ml wm f)(h:code m pc=some (.iastore,pn,kp))(ha:arrs[j]? = some (ty,n))(w:Int32)(hi:inb i n=true)(r:f (m,pn,ls,st,upd S (j+1) i.toNatClampNeg w)=R)(hk:tk kp ls=ls:=by rfl)(ht:isI ty=true:=by rfl)(hv:nar ty v=w:=by first | rfl | decide):f (m,pc,ls,.int v :: .int i :: .ref (j+1)::st,S)=R:=(F.iastoreT hf h hk ha ht hv hi rfl).trans r
theorem JaC(hf:HF1 code rt arrs na ml wm f)(h:code m pc=some (.iastore,pn,kp))(ha:arrs[j]? = some (ty,n))(w:Int32)(z:Nat)(r:f (m,pn,ls,st,upd S (j+1) z w)=R)(hk:tk kp ls=ls:=by rfl)(ht:isI ty=true:=by rfl)(hv:nar ty v=w:=by first | rfl | decide)(hi:inb i n=true:=by first | decide | rfl)(hz:i.toNatClampNeg=z:=by first | decide | rfl):f (m,pc,ls,.int v :: .int i :: .ref (j+1)::st,S)=R:=(F.iastoreT hf h hk ha ht hv hi hz).trans r
theorem Jab(hf:HF1 code rt arrs na ml wm f)(h:code m pc=some (.bastore,pn,kp))(ha:arrs[j]? = some (ty,n))(w:Int32)(r:inb i n=true→f (m,pn,ls,st,upd S (j+1) i.toNatClampNeg w)=R)(hk:tk kp ls=ls:=by rfl)(ht:isB ty=true:=by rfl)(hv:nar ty v=w:=by first | rfl | decide):f (m,pc,ls,.int v :: .int i :: .ref (j+1)::st,S)=if inb i n=true then R else none:=(F.bastore hf h hk ha ht hv).trans (iteH r)
theorem J4(hf:HF1 code rt arrs na ml wm f)(h:code m pc=some (.bastore,pn,kp))(ha:arrs[j]? = some (ty,n))(w:Int32)(hi:inb i n=true)(r:f (m,pn,ls,st,upd S (j+1) i.toNatClampNeg w)=R)(hk:tk kp ls=ls:=by rfl)(ht:isB ty=true:=by rfl)(hv:nar ty v=w:=by first | rfl | decide):f (m,pc,ls,.int v :: .int i :: .ref (j+1)::st,S)=R:=(F.bastoreT hf h hk ha ht hv hi rfl).trans r
theorem JaD(hf:HF1 code rt arrs na ml wm f)(h:code m pc=some (.bastore,pn,kp))(ha:arrs[j]? = some (ty,n))(w:Int32)(z:Nat)(r:f (m,pn,ls,st,upd S (j+1) z w)=R)(hk:tk kp ls=ls:=by rfl)(ht:isB ty=true:=by rfl)(hv:nar ty v=w:=by first | rfl | decide)(hi:inb i n=true:=by first | decide | rfl)(hz:i.toNatClampNeg=z:=by first | decide | rfl):f (m,pc,ls,.int v :: .int i :: .ref (j+1)::st,S)=R:=(F.bastoreT hf h hk ha ht hv hi hz).trans r
theorem Jf(hf:HF1 code rt arrs na ml wm f){as r as':List Value}(h:code m pc=some (.invokevirtual k,pn,kp))(ht:takeA (na k) [] st=some (as,.ref 0::r))(hk:tk kp ls=ls:=by rfl)(hc:okn as=true∧cats r≤wm m∧(entL (.ref 0::as)).length≤ml k:=by exact⟨rfl,Nat.le_of_ble_eq_true rfl,Nat.le_of_ble_eq_true rfl⟩)(he:entL (.ref 0::as)=as':=by rfl):f (m,pc,ls,st,S)=(f (k,0,as',[],S)).bind fun q=>f (m,pn,ls,q.1.toList++r,q.2):=F.call hf h hk ht hc he
end S1
section S2
variable {σ:Type} {code:Codes} {rt:Nat→Option FieldType} {f1:Cfg σ→Option (Res σ)} {Z0:σ} {pe nmax k q o:Nat} {na1 ml1 wm na ml:Nat→Nat} {xs:List Int32} {sc:Option (List Int32)} {f:Cfg (W2 σ)→Option (Res (W2 σ))} {m pc pn:Nat} {kp:Option Nat} {ls st as as' rs:List Value} {ob:List σ} {b:Bool} {S:σ} {w:W2 σ} {i:Int32} {R:Option (Res (W2 σ))}
abbrev HF2(code:Codes)(rt:Nat→Option FieldType)(f1:Cfg σ→Option (Res σ))(Z0:σ)(pe nmax:Nat)(na1 ml1 wm na ml:Nat→Nat)(sc:Option (List Int32))(f:Cfg (W2 σ)→Option (Res (W2 σ))):Prop:=∀c,f c=run (plan code rt (mop2 f1 Z0 pe nmax na1 ml1 wm sc) (cop2 na ml wm)) f c
theorem JY(hf:HF2 code rt f1 Z0 pe nmax na1 ml1 wm na ml sc f)(h:code 0 pc=some (.new q,pn,kp))(r:f (0,pn,ls,.ref (ob.length+1)::st,(true,ob))=R)(hk:tk kp ls=ls:=by rfl)(hl:ob.length<nmax:=by exact Nat.le_of_ble_eq_true rfl):f (0,pc,ls,st,(false,ob))=R:=(F.new hf h hk hl rfl).trans r
theorem J0(hf:HF2 code rt f1 Z0 pe nmax na1 ml1 wm na ml sc f){r:Nat}(h:code 0 pc=some (.invokespecial q,pn,kp))(ht:takeA (na1 0) [] st=some (as,.ref r::rs))(hk:tk kp ls=ls:=by rfl)(hr:r=ob.length+1:=by rfl)(hc:okn as=true∧cats rs≤wm 0∧(entL (.ref 0::as)).length≤ml1 0:=by exact⟨rfl,Nat.le_of_ble_eq_true rfl,Nat.le_of_ble_eq_true rfl⟩)(he:entL (.ref 0::as)=as':=by rfl):f (0,pc,ls,st,(true,ob))=(f1 (0,pe,as',[],Z0)).bind fun q=>f (0,pn,ls,rs,(false,ob++[q.2])):=F.ctor hf h hk ht hr hc he
theorem Jq(hf:HF2 code rt f1 Z0 pe nmax na1 ml1 wm na ml sc f)(o:Nat)(h:code m pc=some (.invokevirtual k,pn,kp))(ht:takeA (na1 k) [] st=some (as,.ref (o+1)::rs))(hS:ob[o]? = some S)(hk:tk kp ls=ls:=by rfl)(hc:okn as=true∧cats rs≤wm m∧(entL (.ref 0::as)).length≤ml1 k:=by exact⟨rfl,Nat.le_of_ble_eq_true rfl,Nat.le_of_ble_eq_true rfl⟩)(he:entL (.ref 0::as)=as':=by rfl):f (m,pc,ls,st,(false,ob))=(f1 (k,0,as',[],S)).bind fun q=>f (m,pn,ls,q.1.toList++rs,(false,ob.set o q.2)):=F.virt hf h hk ht hS hc he
theorem JS(hf:HF2 code rt f1 Z0 pe nmax na1 ml1 wm na ml (some xs) f)(h:code m pc=some (.iaload,pn,kp))(r:inb i xs.length=true→f (m,pn,ls,.int (xs.getD i.toNatClampNeg 0)::st,w)=R)(hk:tk kp ls=ls:=by rfl):f (m,pc,ls,.int i :: .ref 0::st,w)=if inb i xs.length=true then R else none:=(F.sload hf rfl h hk).trans (iteH r)
theorem J9(hf:HF2 code rt f1 Z0 pe nmax na1 ml1 wm na ml (some xs) f)(h:code m pc=some (.arraylength,pn,kp))(r:f (m,pn,ls,.int (Int32.ofNat xs.length)::st,w)=R)(hk:tk kp ls=ls:=by rfl):f (m,pc,ls,.ref 0::st,w)=R:=(F.slen hf rfl h hk).trans r
theorem JE(hf:HF2 code rt f1 Z0 pe nmax na1 ml1 wm na ml sc f)(h:code m pc=some (.invokestatic k,pn,kp))(ht:takeA (na k) [] st=some (as,rs))(hk:tk kp ls=ls:=by rfl)(hc:k≠0∧okv as=true∧cats rs≤wm m∧(entL as).length≤ml k:=by exact⟨by decide,rfl,Nat.le_of_ble_eq_true rfl,Nat.le_of_ble_eq_true rfl⟩)(he:entL as=as':=by rfl):f (m,pc,ls,st,w)=(f (k,0,as',[],w)).bind fun q=>f (m,pn,ls,q.1.toList++rs,q.2):=F.stat hf h hk ht hc he
end S2
end Jvm.OM
namespace Jvm.Pilot.@@N@@
open Jvm Jvm.ClassFile Sem Op Lib Jvm.Free Jvm.Stand Jvm.LawKit Jvm.RoadKit Bundle Jvm.Pilot.@@N@@.Jvm.D Jvm.OM
set_option maxRecDepth 65536
set_option maxHeartbeats 4000000
def tb1:Jvm.OM.Tabs:=([(103,"tokKind","[I",2),(107,"tokArg","[I",5),(110,"stKind","[I",8),(113,"stVar","[I",11),(116,"stParent","[I",14),(119,"stPrev","[I",17),(122,"stNext","[I",20),(125,"stFirst","[I",23),(128,"stStart","[I",26),(131,"stTerm","[I",29),(134,"stSucc","[I",32),(137,"stMask","[I",35),(140,"stResKind","[I",38),(143,"stResVal","[I",41),(146,"stDef","[I",44),(149,"brk","[Z",47),(153,"locKind","[I",50),(156,"locVal","[I",53),(159,"cOp","[I",56),(162,"cA","[I",59),(165,"cB","[I",62),(168,"cC","[I",65),(171,"mem","[I",68),(174,"reg","[I",71),(177,"blkOwner","[I",74),(180,"blkLast","[I",77),(183,"entKind","[I",80),(186,"entVal","[I",83),(189,"regOwner","[I",86),(192,"opStk","[I",89),(195,"cmpSeen","[Z",92),(198,"regCount","I",0),(204,"running","Z",4),(208,"tokCount","I",9),(215,"errPos","I",6),(218,"stmtCount","I",12),(221,"codeLen","I",18),(236,"cur","I",21),(246,"steps","I",24),(259,"lastV","I",27),(262,"lastVal","I",30),(265,"topLast","I",15),(275,"pState","I",33),(278,"blkDepth","I",39),(281,"curStmt","I",36),(300,"entTop","I",42),(303,"opTop","I",45),(306,"parenDepth","I",48)],[(201,17),(211,22),(224,53),(227,59),(230,18),(233,19),(239,63),(242,20),(249,21),(252,13),(255,62),(268,23),(271,24),(284,29),(287,25),(290,30),(293,31),(296,26),(309,38),(312,36),(315,34),(318,32),(325,28),(328,37),(332,50),(335,51),(338,27),(341,35),(344,39),(350,41),(353,48),(356,52),(360,68),(364,42),(368,47),(371,43),(374,45),(384,49),(387,54),(390,55),(393,57),(396,58),(399,56),(402,60),(405,61),(409,64),(412,65),(415,66),(418,67)],[],[],[],[],[])
def cx_0:List (List Jvm.OM.Ent):=[[],[],[],[],[],[],[],[],[],[],[],[],[],[],[],[],[],[],[],[],[],[],[],[],[],[],[(431,.iload 1,432,none)],[(432,.istore 2,433,none),(433,.iload 2,434,none),(434,.iconst 2,435,none),(435,.if_icmp .ge 440,438,none),(438,.iconst 2,439,none),(439,.istore 2,440,none),(440,.iload 2,441,some 3),(441,.iconst 8,443,none),(443,.if_icmp .le 449,446,none),(446,.iconst 8,448,none)],[(448,.istore 2,449,none),(449,.aload 0,450,some 3),(450,.iload 2,451,none),(451,.putfield 0,454,none),(454,.aload 0,455,none),(455,.invokevirtual 17,458,none),(458,.return_,459,none)]]
def cx_1:List (List Jvm.OM.Ent):=[[(0,.aload 0,1,none),(1,.getfield 4,4,none),(4,.ifCond .eq 9,7,none),(7,.iconst 0,8,none),(8,.ireturn,9,none),(9,.iload 1,10,none),(10,.iconst 1,11,none),(11,.if_icmp .lt 20,14,none),(14,.iload 1,15,none),(15,.iconst 17,17,none)],[(17,.if_icmp .le 22,20,none),(20,.iconst 0,21,some 3),(21,.ireturn,22,none),(22,.iload 1,23,none),(23,.iconst 2,24,none),(24,.if_icmp .ne 39,27,none),(27,.iload 2,28,none),(28,.ifCond .lt 37,31,none),(31,.iload 2,32,none)],[(32,.iconst 8,34,none),(34,.if_icmp .lt 39,37,none),(37,.iconst 0,38,some 3),(38,.ireturn,39,none),(39,.aload 0,40,some 3),(40,.getfield 9,43,none),(43,.ifCond .lt 55,46,none),(46,.aload 0,47,none),(47,.getfield 9,50,none)],[(50,.iconst 96,52,none),(52,.if_icmp .lt 57,55,none),(55,.iconst 0,56,some 3),(56,.ireturn,57,none),(57,.aload 0,58,none),(58,.getfield 2,61,none),(61,.aload 0,62,none),(62,.getfield 9,65,none)],[(65,.iload 1,66,none),(66,.iastore,67,none),(67,.iload 1,68,none),(68,.iconst 1,69,none),(69,.if_icmp .eq 77,72,none),(72,.iload 1,73,none),(73,.iconst 2,74,none),(74,.if_icmp .ne 90,77,none),(77,.aload 0,78,some 3),(78,.getfield 5,81,none)],[(81,.aload 0,82,none),(82,.getfield 9,85,none),(85,.iload 2,86,none),(86,.iastore,87,none),(87,.goto 100,90,none),(90,.aload 0,91,none),(91,.getfield 5,94,none),(94,.aload 0,95,none),(95,.getfield 9,98,none)],[(98,.iconst 0,99,none),(99,.iastore,100,none),(100,.aload 0,101,some 3),(101,.dup,102,none),(102,.getfield 9,105,none),(105,.iconst 1,106,none),(106,.iadd,107,none),(107,.putfield 9,110,none),(110,.iconst 1,111,none),(111,.ireturn,112,none)]]
def cx_4:List (List Jvm.OM.Ent):=[[(0,.aload 0,1,none),(1,.getfield 4,4,none),(4,.ifCond .eq 9,7,none),(7,.iconst 3,8,none),(8,.ireturn,9,none),(9,.aload 0,10,none),(10,.invokevirtual 22,13,none),(13,.istore 1,14,none),(14,.iload 1,15,none),(15,.ifCond .lt 35,18,none)],[(18,.aload 0,19,none),(19,.iload 1,20,none),(20,.putfield 6,23,none),(23,.aload 0,24,none),(24,.iconst 0,25,none),(25,.putfield 12,28,none),(28,.aload 0,29,none),(29,.iconst 0,30,none),(30,.putfield 18,33,none)],[(33,.iconst 2,34,none),(34,.ireturn,35,none),(35,.aload 0,36,none),(36,.invokevirtual 53,39,none),(39,.aload 0,40,none),(40,.invokevirtual 59,43,none),(43,.aload 0,44,none),(44,.invokevirtual 18,47,none),(47,.aload 0,48,none)],[(48,.iconst (-1),49,none),(49,.putfield 6,52,none),(52,.aload 0,53,none),(53,.iconst 1,54,none),(54,.putfield 4,57,none),(57,.aload 0,58,none),(58,.invokevirtual 19,61,none),(61,.iconst 1,62,none),(62,.ireturn,63,none)]]
def cx_6:List (List Jvm.OM.Ent):=[[(0,.aload 0,1,none),(1,.getfield 4,4,none),(4,.ifCond .ne 9,7,none),(7,.iconst 0,8,none),(8,.ireturn,9,none),(9,.aload 0,10,none),(10,.getfield 12,13,none),(13,.ireturn,14,none)]]
def cx_8:List (List Jvm.OM.Ent):=[[(0,.aload 0,1,none),(1,.getfield 4,4,none),(4,.ifCond .ne 9,7,none),(7,.iconst (-1),8,none),(8,.ireturn,9,none),(9,.aload 0,10,none),(10,.getfield 21,13,none),(13,.iconst (-2),15,none),(15,.if_icmp .ne 21,18,none)],[(18,.iconst (-2),20,none),(20,.ireturn,21,none),(21,.aload 0,22,none),(22,.invokevirtual 63,25,none),(25,.aload 0,26,none),(26,.getfield 21,29,none),(29,.ireturn,30,none)]]
def cx_9:List (List Jvm.OM.Ent):=[[(0,.iload 1,1,none),(1,.istore 2,2,none),(2,.iload 2,3,none),(3,.iconst 1,4,none),(4,.if_icmp .ge 9,7,none),(7,.iconst 1,8,none),(8,.istore 2,9,none),(9,.iload 2,10,some 3),(10,.iconst 256,13,none),(13,.if_icmp .le 20,16,none)],[(16,.iconst 256,19,none),(19,.istore 2,20,none),(20,.aload 0,21,some 3),(21,.getfield 4,24,none),(24,.ifCond .ne 29,27,none),(27,.iconst (-1),28,none),(28,.ireturn,29,none),(29,.aload 0,30,none),(30,.getfield 21,33,none)],[(33,.iconst (-2),35,none),(35,.if_icmp .ne 41,38,none),(38,.iconst (-2),40,none),(40,.ireturn,41,none),(41,.iconst 0,42,none),(42,.istore 3,43,none),(43,.iload 3,44,some 4),(44,.iload 2,45,none),(45,.if_icmp .ge 81,48,none)],[(48,.aload 0,49,none),(49,.invokevirtual 63,52,none),(52,.aload 0,53,none),(53,.getfield 21,56,none),(56,.iconst (-2),58,none),(58,.if_icmp .eq 81,61,none),(61,.aload 0,62,none),(62,.aload 0,63,none),(63,.getfield 21,66,none)],[(66,.invokevirtual 20,69,none),(69,.ifCond .eq 75,72,none),(72,.goto 81,75,none),(75,.iinc 3 1,78,none),(78,.goto 43,81,none)],[(81,.aload 0,82,some 4),(82,.getfield 21,85,none),(85,.ireturn,86,none)]]
def cx_10:List (List Jvm.OM.Ent):=[[(0,.aload 0,1,none),(1,.getfield 4,4,none),(4,.ifCond .ne 9,7,none),(7,.iconst 0,8,none),(8,.ireturn,9,none),(9,.aload 0,10,none),(10,.invokevirtual 19,13,none),(13,.iconst 1,14,none),(14,.ireturn,15,none)]]
def cx_11:List (List Jvm.OM.Ent):=[[(0,.aload 0,1,none),(1,.getfield 4,4,none),(4,.ifCond .ne 9,7,none),(7,.iconst (-1),8,none),(8,.ireturn,9,none),(9,.aload 0,10,none),(10,.getfield 21,13,none),(13,.ireturn,14,none)]]
def cx_13:List (List Jvm.OM.Ent):=[[(0,.aload 0,1,none),(1,.getfield 4,4,none),(4,.ifCond .eq 17,7,none),(7,.iload 1,8,none),(8,.ifCond .lt 17,11,none),(11,.iload 1,12,none),(12,.iconst 8,14,none),(14,.if_icmp .lt 19,17,none)],[(17,.iconst 0,18,some 2),(18,.ireturn,19,none),(19,.aload 0,20,none),(20,.invokevirtual 21,23,none),(23,.istore 2,24,none),(24,.iload 2,25,none),(25,.ifCond .lt 34,28,none),(28,.iload 2,29,none),(29,.iconst 40,31,none),(31,.if_icmp .lt 36,34,none)],[(34,.iconst 0,35,some 3),(35,.ireturn,36,none),(36,.aload 0,37,none),(37,.getfield 44,40,none),(40,.iload 2,41,none),(41,.iaload,42,none),(42,.iload 1,43,none),(43,.ishr,44,none),(44,.iconst 1,45,none),(45,.iand,46,none),(46,.ifCond .eq 53,49,none)],[(49,.iconst 1,50,none),(50,.goto 54,53,none),(53,.iconst 0,54,none),(54,.ireturn,55,some 3)]]
def cx_14:List (List Jvm.OM.Ent):=[[(0,.aload 0,1,none),(1,.iload 1,2,none),(2,.invokevirtual 13,5,none),(5,.ifCond .ne 10,8,none),(8,.iconst 0,9,none),(9,.ireturn,10,none),(10,.aload 0,11,none),(11,.invokevirtual 21,14,none),(14,.iconst 8,16,none)],[(16,.imul,17,none),(17,.iload 1,18,none),(18,.iadd,19,none),(19,.istore 2,20,none),(20,.iload 2,21,none),(21,.ifCond .lt 31,24,none),(24,.iload 2,25,none),(25,.iconst 320,28,none),(28,.if_icmp .lt 33,31,none),(31,.iconst 0,32,some 3)],[(32,.ireturn,33,none),(33,.aload 0,34,none),(34,.aload 0,35,none),(35,.getfield 50,38,none),(38,.iload 2,39,none),(39,.iaload,40,none),(40,.aload 0,41,none),(41,.getfield 53,44,none),(44,.iload 2,45,none),(45,.iaload,46,none),(46,.invokevirtual 62,49,none)],[(49,.ireturn,50,none)]]
def cx_15:List (List Jvm.OM.Ent):=[[(0,.aload 0,1,none),(1,.getfield 4,4,none),(4,.ifCond .ne 9,7,none),(7,.iconst (-1),8,none),(8,.ireturn,9,none),(9,.aload 0,10,none),(10,.getfield 27,13,none),(13,.ireturn,14,none)]]
def cx_16:List (List Jvm.OM.Ent):=[[(0,.aload 0,1,none),(1,.getfield 4,4,none),(4,.ifCond .ne 9,7,none),(7,.iconst 0,8,none),(8,.ireturn,9,none),(9,.aload 0,10,none),(10,.getfield 30,13,none),(13,.ireturn,14,none)]]
def cx_17:List (List Jvm.OM.Ent):=[[(0,.aload 0,1,none),(1,.iconst 0,2,none),(2,.putfield 4,5,none),(5,.aload 0,6,none),(6,.iconst 0,7,none),(7,.putfield 9,10,none),(10,.aload 0,11,none),(11,.iconst (-1),12,none),(12,.putfield 6,15,none),(15,.aload 0,16,none)],[(16,.iconst 0,17,none),(17,.putfield 12,20,none),(20,.aload 0,21,none),(21,.iconst 0,22,none),(22,.putfield 18,25,none),(25,.aload 0,26,none),(26,.iconst (-1),27,none),(27,.putfield 15,30,none),(30,.aload 0,31,none),(31,.invokevirtual 18,34,none)],[(34,.aload 0,35,none),(35,.iconst (-2),37,none),(37,.putfield 21,40,none),(40,.aload 0,41,none),(41,.iconst 0,42,none),(42,.putfield 24,45,none),(45,.aload 0,46,none),(46,.iconst (-1),47,none),(47,.putfield 27,50,none)],[(50,.aload 0,51,none),(51,.iconst 0,52,none),(52,.putfield 30,55,none),(55,.return_,56,none)]]
def cx_18:List (List Jvm.OM.Ent):=[[(0,.iconst 0,1,none),(1,.istore 1,2,none),(2,.iload 1,3,some 2),(3,.iconst 32,5,none),(5,.if_icmp .ge 21,8,none),(8,.aload 0,9,none),(9,.getfield 47,12,none),(12,.iload 1,13,none),(13,.iconst 0,14,none),(14,.bastore,15,none),(15,.iinc 1 1,18,none)],[(18,.goto 2,21,none),(21,.return_,22,none)]]
def cx_19:List (List Jvm.OM.Ent):=[[(0,.iconst 0,1,none),(1,.istore 1,2,none),(2,.iload 1,3,some 2),(3,.iconst 128,6,none),(6,.if_icmp .ge 22,9,none),(9,.aload 0,10,none),(10,.getfield 68,13,none),(13,.iload 1,14,none),(14,.iconst 0,15,none),(15,.iastore,16,none)],[(16,.iinc 1 1,19,none),(19,.goto 2,22,none),(22,.iconst 0,23,none),(23,.istore 1,24,none),(24,.iload 1,25,some 2),(25,.iconst 8,27,none),(27,.if_icmp .ge 43,30,none),(30,.aload 0,31,none),(31,.getfield 71,34,none)],[(34,.iload 1,35,none),(35,.iconst 0,36,none),(36,.iastore,37,none),(37,.iinc 1 1,40,none),(40,.goto 24,43,none),(43,.aload 0,44,none),(44,.iconst 0,45,none),(45,.putfield 24,48,none)],[(48,.aload 0,49,none),(49,.iconst (-1),50,none),(50,.putfield 27,53,none),(53,.aload 0,54,none),(54,.iconst 0,55,none),(55,.putfield 30,58,none),(58,.aload 0,59,none),(59,.getfield 12,62,none),(62,.ifCond .le 73,65,none)],[(65,.aload 0,66,none),(66,.iconst 0,67,none),(67,.putfield 21,70,none),(70,.goto 79,73,none),(73,.aload 0,74,none),(74,.iconst (-2),76,none),(76,.putfield 21,79,none),(79,.return_,80,some 2)]]
def cx_20:List (List Jvm.OM.Ent):=[[(0,.iload 1,1,none),(1,.ifCond .lt 18,4,none),(4,.iload 1,5,none),(5,.aload 0,6,none),(6,.getfield 12,9,none),(9,.if_icmp .ge 18,12,none),(12,.iload 1,13,none),(13,.iconst 32,15,none),(15,.if_icmp .lt 20,18,none)],[(18,.iconst 0,19,some 2),(19,.ireturn,20,none),(20,.aload 0,21,none),(21,.getfield 47,24,none),(24,.iload 1,25,none),(25,.baload,26,none),(26,.ireturn,27,none)]]
def cx_21:List (List Jvm.OM.Ent):=[[(0,.aload 0,1,none),(1,.getfield 21,4,none),(4,.ifCond .lt 23,7,none),(7,.aload 0,8,none),(8,.getfield 21,11,none),(11,.aload 0,12,none),(12,.getfield 12,15,none),(15,.if_icmp .ge 23,18,none)],[(18,.aload 0,19,none),(19,.getfield 21,22,none),(22,.ireturn,23,none),(23,.aload 0,24,some 1),(24,.getfield 12,27,none),(27,.ireturn,28,none)]]
def cx_22:List (List Jvm.OM.Ent):=[[(0,.aload 0,1,none),(1,.invokevirtual 23,4,none),(4,.iconst 0,5,none),(5,.istore 1,6,none),(6,.iload 1,7,some 2),(7,.aload 0,8,none),(8,.getfield 9,11,none),(11,.if_icmp .ge 47,14,none),(14,.iload 1,15,none),(15,.iconst 96,17,none)],[(17,.if_icmp .ge 47,20,none),(20,.aload 0,21,none),(21,.aload 0,22,none),(22,.getfield 2,25,none),(25,.iload 1,26,none),(26,.iaload,27,none),(27,.aload 0,28,none),(28,.getfield 5,31,none),(31,.iload 1,32,none)],[(32,.iaload,33,none),(33,.invokevirtual 24,36,none),(36,.ifCond .ne 41,39,none),(39,.iload 1,40,none),(40,.ireturn,41,none),(41,.iinc 1 1,44,none),(44,.goto 6,47,none),(47,.aload 0,48,some 2)],[(48,.getfield 33,51,none),(51,.ifCond .ne 61,54,none),(54,.aload 0,55,none),(55,.getfield 39,58,none),(58,.ifCond .eq 66,61,none),(61,.aload 0,62,some 2),(62,.getfield 9,65,none)],[(65,.ireturn,66,none),(66,.iconst (-1),67,none),(67,.ireturn,68,none)]]
def cx_23:List (List Jvm.OM.Ent):=[[(0,.aload 0,1,none),(1,.iconst 0,2,none),(2,.putfield 12,5,none),(5,.aload 0,6,none),(6,.iconst 0,7,none),(7,.putfield 18,10,none),(10,.aload 0,11,none),(11,.iconst (-1),12,none),(12,.putfield 15,15,none),(15,.aload 0,16,none)],[(16,.iconst 0,17,none),(17,.putfield 39,20,none),(20,.aload 0,21,none),(21,.getfield 74,24,none),(24,.iconst 0,25,none),(25,.iconst (-1),26,none),(26,.iastore,27,none),(27,.aload 0,28,none),(28,.getfield 77,31,none),(31,.iconst 0,32,none)],[(32,.iconst (-1),33,none),(33,.iastore,34,none),(34,.aload 0,35,none),(35,.iconst 0,36,none),(36,.putfield 33,39,none),(39,.aload 0,40,none),(40,.iconst (-1),41,none),(41,.putfield 36,44,none),(44,.aload 0,45,none),(45,.invokevirtual 29,48,none)],[(48,.return_,49,none)]]
def cx_24:List (List Jvm.OM.Ent):=[[(0,.aload 0,1,none),(1,.getfield 33,4,none),(4,.ifCond .ne 14,7,none),(7,.aload 0,8,none),(8,.iload 1,9,none),(9,.iload 2,10,none),(10,.invokevirtual 25,13,none),(13,.ireturn,14,none),(14,.aload 0,15,none),(15,.getfield 33,18,none)],[(18,.iconst 1,19,none),(19,.if_icmp .ne 40,22,none),(22,.iload 1,23,none),(23,.iconst 3,24,none),(24,.if_icmp .eq 29,27,none),(27,.iconst 0,28,none),(28,.ireturn,29,none),(29,.aload 0,30,none),(30,.invokevirtual 29,33,none)],[(33,.aload 0,34,none),(34,.iconst 2,35,none),(35,.putfield 33,38,none),(38,.iconst 1,39,none),(39,.ireturn,40,none),(40,.aload 0,41,none),(41,.getfield 33,44,none),(44,.iconst 2,45,none),(45,.if_icmp .ne 55,48,none)],[(48,.aload 0,49,none),(49,.iload 1,50,none),(50,.iload 2,51,none),(51,.invokevirtual 30,54,none),(54,.ireturn,55,none),(55,.aload 0,56,none),(56,.iload 1,57,none),(57,.invokevirtual 31,60,none),(60,.ireturn,61,none)]]
def cx_25:List (List Jvm.OM.Ent):=[[(0,.iload 1,1,none),(1,.iconst 15,3,none),(3,.if_icmp .ne 27,6,none),(6,.aload 0,7,none),(7,.getfield 39,10,none),(10,.ifCond .gt 15,13,none),(13,.iconst 0,14,none),(14,.ireturn,15,none),(15,.aload 0,16,none)],[(16,.dup,17,none),(17,.getfield 39,20,none),(20,.iconst 1,21,none),(21,.isub,22,none),(22,.putfield 39,25,none),(25,.iconst 1,26,none),(26,.ireturn,27,none),(27,.iload 1,28,none),(28,.iconst 2,29,none),(29,.if_icmp .eq 46,32,none)],[(32,.iload 1,33,none),(33,.iconst 16,35,none),(35,.if_icmp .eq 46,38,none),(38,.iload 1,39,none),(39,.iconst 17,41,none),(41,.if_icmp .eq 46,44,none),(44,.iconst 0,45,none),(45,.ireturn,46,none),(46,.aload 0,47,some 3),(47,.iload 1,48,none)],[(48,.invokevirtual 26,51,none),(51,.istore 3,52,none),(52,.iload 3,53,none),(53,.ifCond .ge 58,56,none),(56,.iconst 0,57,none),(57,.ireturn,58,none),(58,.iload 1,59,none),(59,.iconst 2,60,none),(60,.if_icmp .ne 77,63,none),(63,.aload 0,64,none)],[(64,.getfield 11,67,none),(67,.iload 3,68,none),(68,.iload 2,69,none),(69,.iastore,70,none),(70,.aload 0,71,none),(71,.iconst 1,72,none),(72,.putfield 33,75,none),(75,.iconst 1,76,none),(76,.ireturn,77,none),(77,.aload 0,78,none),(78,.invokevirtual 29,81,none)],[(81,.aload 0,82,none),(82,.iconst 2,83,none),(83,.putfield 33,86,none),(86,.iconst 1,87,none),(87,.ireturn,88,none)]]
def cx_26:List (List Jvm.OM.Ent):=[[(0,.aload 0,1,none),(1,.getfield 12,4,none),(4,.ifCond .lt 16,7,none),(7,.aload 0,8,none),(8,.getfield 12,11,none),(11,.iconst 32,13,none),(13,.if_icmp .lt 18,16,none)],[(16,.iconst (-1),17,some 2),(17,.ireturn,18,none),(18,.aload 0,19,none),(19,.getfield 39,22,none),(22,.ifCond .lt 34,25,none),(25,.aload 0,26,none),(26,.getfield 39,29,none),(29,.iconst 40,31,none),(31,.if_icmp .lt 36,34,none)],[(34,.iconst (-1),35,some 2),(35,.ireturn,36,none),(36,.aload 0,37,none),(37,.getfield 12,40,none),(40,.istore 2,41,none),(41,.aload 0,42,none),(42,.dup,43,none),(43,.getfield 12,46,none),(46,.iconst 1,47,none),(47,.iadd,48,none)],[(48,.putfield 12,51,none),(51,.aload 0,52,none),(52,.getfield 8,55,none),(55,.iload 2,56,none),(56,.iload 1,57,none),(57,.iastore,58,none),(58,.aload 0,59,none),(59,.getfield 11,62,none),(62,.iload 2,63,none),(63,.iconst 0,64,none)],[(64,.iastore,65,none),(65,.aload 0,66,none),(66,.getfield 23,69,none),(69,.iload 2,70,none),(70,.iconst (-1),71,none),(71,.iastore,72,none),(72,.aload 0,73,none),(73,.getfield 20,76,none),(76,.iload 2,77,none),(77,.iconst (-1),78,none),(78,.iastore,79,none),(79,.aload 0,80,none)],[(80,.getfield 35,83,none),(83,.iload 2,84,none),(84,.iconst 0,85,none),(85,.iastore,86,none),(86,.aload 0,87,none),(87,.getfield 29,90,none),(90,.iload 2,91,none),(91,.iconst (-1),92,none),(92,.iastore,93,none),(93,.aload 0,94,none),(94,.getfield 32,97,none)],[(97,.iload 2,98,none),(98,.iconst (-2),100,none),(100,.iastore,101,none),(101,.aload 0,102,none),(102,.getfield 38,105,none),(105,.iload 2,106,none),(106,.iconst 1,107,none),(107,.iastore,108,none),(108,.aload 0,109,none),(109,.getfield 41,112,none)],[(112,.iload 2,113,none),(113,.iconst 0,114,none),(114,.iastore,115,none),(115,.aload 0,116,none),(116,.getfield 26,119,none),(119,.iload 2,120,none),(120,.aload 0,121,none),(121,.getfield 18,124,none),(124,.iastore,125,none),(125,.aload 0,126,none),(126,.getfield 74,129,none)],[(129,.aload 0,130,none),(130,.getfield 39,133,none),(133,.iaload,134,none),(134,.istore 3,135,none),(135,.aload 0,136,none),(136,.getfield 77,139,none),(139,.aload 0,140,none),(140,.getfield 39,143,none),(143,.iaload,144,none)],[(144,.istore 4,146,none),(146,.aload 0,147,none),(147,.getfield 14,150,none),(150,.iload 2,151,none),(151,.iload 3,152,none),(152,.iastore,153,none),(153,.aload 0,154,none),(154,.getfield 17,157,none),(157,.iload 2,158,none),(158,.iload 4,160,none)],[(160,.iastore,161,none),(161,.iload 4,163,none),(163,.ifCond .lt 184,166,none),(166,.iload 4,168,none),(168,.iconst 32,170,none),(170,.if_icmp .ge 184,173,none),(173,.aload 0,174,none),(174,.getfield 20,177,none)],[(177,.iload 4,179,none),(179,.iload 2,180,none),(180,.iastore,181,none),(181,.goto 201,184,none),(184,.iload 3,185,some 5),(185,.ifCond .lt 201,188,none),(188,.iload 3,189,none),(189,.iconst 32,191,none),(191,.if_icmp .ge 201,194,none)],[(194,.aload 0,195,none),(195,.getfield 23,198,none),(198,.iload 3,199,none),(199,.iload 2,200,none),(200,.iastore,201,none),(201,.aload 0,202,some 5),(202,.getfield 77,205,none),(205,.aload 0,206,none),(206,.getfield 39,209,none)],[(209,.iload 2,210,none),(210,.iastore,211,none),(211,.aload 0,212,none),(212,.iload 2,213,none),(213,.putfield 36,216,none),(216,.iload 2,217,none),(217,.ireturn,218,none)]]
def cx_27:List (List Jvm.OM.Ent):=[[(0,.aload 0,1,none),(1,.getfield 39,4,none),(4,.ifCond .lt 18,7,none),(7,.aload 0,8,none),(8,.getfield 39,11,none),(11,.iconst 1,12,none),(12,.iadd,13,none),(13,.iconst 40,15,none),(15,.if_icmp .lt 20,18,none)],[(18,.iconst 0,19,some 1),(19,.ireturn,20,none),(20,.aload 0,21,none),(21,.dup,22,none),(22,.getfield 39,25,none),(25,.iconst 1,26,none),(26,.iadd,27,none),(27,.putfield 39,30,none),(30,.aload 0,31,none),(31,.getfield 74,34,none)],[(34,.aload 0,35,none),(35,.getfield 39,38,none),(38,.aload 0,39,none),(39,.getfield 36,42,none),(42,.iastore,43,none),(43,.aload 0,44,none),(44,.getfield 77,47,none),(47,.aload 0,48,none)],[(48,.getfield 39,51,none),(51,.iconst (-1),52,none),(52,.iastore,53,none),(53,.aload 0,54,none),(54,.iconst 0,55,none),(55,.putfield 33,58,none),(58,.iconst 1,59,none),(59,.ireturn,60,none)]]
def cx_28:List (List Jvm.OM.Ent):=[[(0,.aload 0,1,none),(1,.getfield 36,4,none),(4,.ifCond .lt 16,7,none),(7,.aload 0,8,none),(8,.getfield 36,11,none),(11,.iconst 32,13,none),(13,.if_icmp .lt 18,16,none)],[(16,.iconst 0,17,some 1),(17,.ireturn,18,none),(18,.aload 0,19,none),(19,.getfield 8,22,none),(22,.aload 0,23,none),(23,.getfield 36,26,none),(26,.iaload,27,none),(27,.iconst 2,28,none),(28,.if_icmp .ne 35,31,none),(31,.iconst 1,32,none)],[(32,.goto 36,35,none),(35,.iconst 0,36,none),(36,.ireturn,37,some 1)]]
def cx_29:List (List Jvm.OM.Ent):=[[(0,.aload 0,1,none),(1,.iconst 0,2,none),(2,.putfield 42,5,none),(5,.aload 0,6,none),(6,.iconst 0,7,none),(7,.putfield 45,10,none),(10,.aload 0,11,none),(11,.iconst 0,12,none),(12,.putfield 48,15,none),(15,.aload 0,16,none)],[(16,.getfield 92,19,none),(19,.iconst 0,20,none),(20,.iconst 0,21,none),(21,.bastore,22,none),(22,.iconst 0,23,none),(23,.istore 1,24,none),(24,.iload 1,25,some 2),(25,.iconst 8,27,none),(27,.if_icmp .ge 43,30,none),(30,.aload 0,31,none),(31,.getfield 86,34,none)],[(34,.iload 1,35,none),(35,.iconst (-1),36,none),(36,.iastore,37,none),(37,.iinc 1 1,40,none),(40,.goto 24,43,none),(43,.return_,44,none)]]
def cx_30:List (List Jvm.OM.Ent):=[[(0,.iload 1,1,none),(1,.iconst 1,2,none),(2,.if_icmp .eq 10,5,none),(5,.iload 1,6,none),(6,.iconst 2,7,none),(7,.if_icmp .ne 37,10,none),(10,.iconst 2,11,some 3),(11,.istore 3,12,none),(12,.iload 1,13,none),(13,.iconst 1,14,none),(14,.if_icmp .ne 19,17,none)],[(17,.iconst 1,18,none),(18,.istore 3,19,none),(19,.aload 0,20,some 4),(20,.iload 3,21,none),(21,.iload 2,22,none),(22,.invokevirtual 38,25,none),(25,.ifCond .ne 30,28,none),(28,.iconst 0,29,none),(29,.ireturn,30,none),(30,.aload 0,31,none),(31,.iconst 3,32,none)],[(32,.putfield 33,35,none),(35,.iconst 1,36,none),(36,.ireturn,37,none),(37,.iload 1,38,none),(38,.iconst 6,40,none),(40,.if_icmp .ne 50,43,none),(43,.aload 0,44,none),(44,.iconst 20,46,none),(46,.invokevirtual 36,49,none)],[(49,.ireturn,50,none),(50,.iload 1,51,none),(51,.iconst 12,53,none),(53,.if_icmp .ne 109,56,none),(56,.aload 0,57,none),(57,.getfield 48,60,none),(60,.ifCond .lt 74,63,none),(63,.aload 0,64,none)],[(64,.getfield 48,67,none),(67,.iconst 1,68,none),(68,.iadd,69,none),(69,.iconst 96,71,none),(71,.if_icmp .lt 76,74,none),(74,.iconst 0,75,some 3),(75,.ireturn,76,none),(76,.aload 0,77,none),(77,.iconst 21,79,none),(79,.invokevirtual 36,82,none)],[(82,.ifCond .ne 87,85,none),(85,.iconst 0,86,none),(86,.ireturn,87,none),(87,.aload 0,88,none),(88,.dup,89,none),(89,.getfield 48,92,none),(92,.iconst 1,93,none),(93,.iadd,94,none),(94,.putfield 48,97,none)],[(97,.aload 0,98,none),(98,.getfield 92,101,none),(101,.aload 0,102,none),(102,.getfield 48,105,none),(105,.iconst 0,106,none),(106,.bastore,107,none),(107,.iconst 1,108,none),(108,.ireturn,109,none),(109,.iconst 0,110,none),(110,.ireturn,111,none)]]
def cx_31:List (List Jvm.OM.Ent):=[[(0,.aload 0,1,none),(1,.iload 1,2,none),(2,.invokevirtual 34,5,none),(5,.ifCond .eq 14,8,none),(8,.aload 0,9,none),(9,.iload 1,10,none),(10,.invokevirtual 32,13,none),(13,.ireturn,14,none),(14,.iload 1,15,none),(15,.iconst 13,17,none)],[(17,.if_icmp .ne 25,20,none),(20,.aload 0,21,none),(25,.aload 0,26,none),(26,.getfield 48,29,none),(29,.ifCond .eq 34,32,none)],[(32,.iconst 0,33,none),(33,.ireturn,34,none),(34,.aload 0,35,none),(35,.invokevirtual 28,38,none),(38,.istore 2,39,none),(39,.iload 2,40,none),(40,.ifCond .eq 64,43,none),(43,.iload 1,44,none),(44,.iconst 4,45,none),(45,.if_icmp .ne 64,48,none)],[(48,.aload 0,49,none),(49,.iconst 0,50,none),(50,.invokevirtual 37,53,none),(53,.aload 0,54,none),(54,.invokevirtual 50,57,none),(57,.aload 0,58,none),(58,.iconst 0,59,none),(59,.putfield 33,62,none),(62,.iconst 1,63,none),(63,.ireturn,64,none)],[(64,.iload 2,65,some 3),(65,.ifCond .ne 88,68,none),(68,.iload 1,69,none),(69,.iconst 14,71,none),(71,.if_icmp .ne 88,74,none),(74,.aload 0,75,none),(75,.iconst 0,76,none),(76,.invokevirtual 37,79,none),(79,.aload 0,80,none)],[(80,.invokevirtual 51,83,none),(83,.aload 0,84,none),(84,.invokevirtual 27,87,none),(87,.ireturn,88,none),(88,.iconst 0,89,some 3),(89,.ireturn,90,none)]]
def cx_32:List (List Jvm.OM.Ent):=[[(0,.iload 1,1,none),(1,.iconst 10,3,none),(3,.if_icmp .eq 12,6,none),(6,.iload 1,7,none),(7,.iconst 11,9,none),(9,.if_icmp .ne 54,12,none),(12,.aload 0,13,some 2),(13,.getfield 48,16,none)],[(16,.ifCond .lt 28,19,none),(19,.aload 0,20,none),(20,.getfield 48,23,none),(23,.iconst 96,25,none),(25,.if_icmp .lt 30,28,none),(28,.iconst 0,29,some 2),(29,.ireturn,30,none),(30,.aload 0,31,none),(31,.getfield 92,34,none)],[(34,.aload 0,35,none),(35,.getfield 48,38,none),(38,.baload,39,none),(39,.ifCond .eq 44,42,none),(42,.iconst 0,43,none),(43,.ireturn,44,none),(44,.aload 0,45,none),(45,.getfield 92,48,none)],[(48,.aload 0,49,none),(49,.getfield 48,52,none),(52,.iconst 1,53,none),(53,.bastore,54,none),(54,.aload 0,55,some 2),(55,.iload 1,56,none),(56,.invokevirtual 35,59,none),(59,.istore 2,60,none),(60,.aload 0,61,none),(61,.iload 2,62,none),(62,.invokevirtual 37,65,none)],[(65,.aload 0,66,none),(66,.iload 1,67,none),(67,.invokevirtual 36,70,none),(70,.ifCond .ne 75,73,none),(73,.iconst 0,74,none),(74,.ireturn,75,none),(75,.aload 0,76,none),(76,.iconst 2,77,none),(77,.putfield 33,80,none)],[(80,.iconst 1,81,none),(81,.ireturn,82,none)]]
def cx_34:List (List Jvm.OM.Ent):=[[(0,.iload 1,1,none),(1,.iconst 5,2,none),(2,.if_icmp .lt 15,5,none),(5,.iload 1,6,none),(6,.iconst 11,8,none),(8,.if_icmp .gt 15,11,none),(11,.iconst 1,12,none),(12,.goto 16,15,none),(15,.iconst 0,16,some 2)],[(16,.ireturn,17,some 2)]]
def cx_35:List (List Jvm.OM.Ent):=[[(0,.iload 1,1,none),(1,.iconst 10,3,none),(3,.if_icmp .eq 12,6,none),(6,.iload 1,7,none),(7,.iconst 11,9,none),(9,.if_icmp .ne 14,12,none),(12,.iconst 1,13,some 2),(13,.ireturn,14,none),(14,.iload 1,15,none),(15,.iconst 5,16,none)],[(16,.if_icmp .eq 25,19,none),(19,.iload 1,20,none),(20,.iconst 6,22,none),(22,.if_icmp .ne 27,25,none),(25,.iconst 2,26,some 2),(26,.ireturn,27,none),(27,.iload 1,28,none),(28,.iconst 7,30,none),(30,.if_icmp .eq 45,33,none)],[(33,.iload 1,34,none),(34,.iconst 8,36,none),(36,.if_icmp .eq 45,39,none),(39,.iload 1,40,none),(40,.iconst 9,42,none),(42,.if_icmp .ne 47,45,none),(45,.iconst 3,46,some 2),(46,.ireturn,47,none),(47,.iload 1,48,none)],[(48,.iconst 20,50,none),(50,.if_icmp .ne 55,53,none),(53,.iconst 4,54,none),(54,.ireturn,55,none),(55,.iconst 0,56,none),(56,.ireturn,57,none)]]
def cx_36:List (List Jvm.OM.Ent):=[[(0,.aload 0,1,none),(1,.getfield 45,4,none),(4,.ifCond .lt 16,7,none),(7,.aload 0,8,none),(8,.getfield 45,11,none),(11,.iconst 96,13,none),(13,.if_icmp .lt 18,16,none)],[(16,.iconst 0,17,some 2),(17,.ireturn,18,none),(18,.aload 0,19,none),(19,.getfield 89,22,none),(22,.aload 0,23,none),(23,.getfield 45,26,none),(26,.iload 1,27,none),(27,.iastore,28,none),(28,.aload 0,29,none),(29,.dup,30,none),(30,.getfield 45,33,none)],[(33,.iconst 1,34,none),(34,.iadd,35,none),(35,.putfield 45,38,none),(38,.iconst 1,39,none),(39,.ireturn,40,none)]]
def cx_37:List (List Jvm.OM.Ent):=[[(0,.iconst 0,1,none),(1,.istore 2,2,none),(2,.iload 2,3,some 3),(3,.iconst 96,5,none),(5,.if_icmp .ge 78,8,none),(8,.aload 0,9,none),(9,.getfield 45,12,none),(12,.ifCond .le 78,15,none),(15,.aload 0,16,none)],[(16,.getfield 45,19,none),(19,.iconst 96,21,none),(21,.if_icmp .gt 78,24,none),(24,.aload 0,25,none),(25,.getfield 89,28,none),(28,.aload 0,29,none),(29,.getfield 45,32,none)],[(32,.iconst 1,33,none),(33,.isub,34,none),(34,.iaload,35,none),(35,.istore 3,36,none),(36,.iload 3,37,none),(37,.iconst 21,39,none),(39,.if_icmp .ne 43,42,none),(42,.return_,43,none),(43,.aload 0,44,none),(44,.iload 3,45,none),(45,.invokevirtual 35,48,none)],[(48,.istore 4,50,none),(50,.iload 4,52,none),(52,.iload 1,53,none),(53,.if_icmp .ge 57,56,none),(56,.return_,57,none),(57,.aload 0,58,none),(58,.dup,59,none),(59,.getfield 45,62,none),(62,.iconst 1,63,none),(63,.isub,64,none)],[(64,.putfield 45,67,none),(67,.aload 0,68,none),(68,.iload 3,69,none),(69,.invokevirtual 39,72,none),(72,.iinc 2 1,75,none),(75,.goto 2,78,none),(78,.return_,79,some 3)]]
def cx_38:List (List Jvm.OM.Ent):=[[(0,.aload 0,1,none),(1,.getfield 42,4,none),(4,.ifCond .lt 16,7,none),(7,.aload 0,8,none),(8,.getfield 42,11,none),(11,.iconst 96,13,none),(13,.if_icmp .lt 18,16,none)],[(16,.iconst 0,17,some 3),(17,.ireturn,18,none),(18,.aload 0,19,none),(19,.getfield 80,22,none),(22,.aload 0,23,none),(23,.getfield 42,26,none),(26,.iload 1,27,none),(27,.iastore,28,none),(28,.aload 0,29,none),(29,.getfield 83,32,none)],[(32,.aload 0,33,none),(33,.getfield 42,36,none),(36,.iload 2,37,none),(37,.iastore,38,none),(38,.aload 0,39,none),(39,.dup,40,none),(40,.getfield 42,43,none),(43,.iconst 1,44,none),(44,.iadd,45,none),(45,.putfield 42,48,none)],[(48,.iconst 1,49,none),(49,.ireturn,50,none)]]
def cx_39:List (List Jvm.OM.Ent):=[[(0,.iload 1,1,none),(1,.iconst 20,3,none),(3,.if_icmp .ne 13,6,none),(6,.aload 0,7,none),(13,.aload 0,14,none),(14,.iload 1,15,none),(15,.invokevirtual 41,18,none)],[(18,.return_,19,none)]]
def cx_41:List (List Jvm.OM.Ent):=[[(0,.aload 0,1,none),(1,.getfield 42,4,none),(4,.iconst 2,5,none),(5,.if_icmp .lt 17,8,none),(8,.aload 0,9,none),(9,.getfield 42,12,none),(12,.iconst 96,14,none),(14,.if_icmp .le 18,17,none)],[(17,.return_,18,some 2),(18,.aload 0,19,none),(19,.getfield 42,22,none),(22,.iconst 2,23,none),(23,.isub,24,none),(24,.istore 2,25,none),(25,.aload 0,26,none),(26,.getfield 42,29,none),(29,.iconst 1,30,none),(30,.isub,31,none),(31,.istore 3,32,none)],[(32,.aload 0,33,none),(33,.getfield 80,36,none),(36,.iload 2,37,none),(37,.iaload,38,none),(38,.iconst 1,39,none),(39,.if_icmp .ne 86,42,none),(42,.aload 0,43,none),(43,.getfield 80,46,none),(46,.iload 3,47,none),(47,.iaload,48,none)],[(48,.iconst 1,49,none),(49,.if_icmp .ne 86,52,none),(52,.aload 0,53,none),(53,.getfield 83,56,none),(56,.iload 2,57,none),(57,.aload 0,58,none),(58,.iload 1,59,none),(59,.aload 0,60,none),(60,.getfield 83,63,none),(63,.iload 2,64,none)],[(64,.iaload,65,none),(65,.aload 0,66,none),(66,.getfield 83,69,none),(69,.iload 3,70,none),(70,.iaload,71,none),(71,.invokevirtual 68,74,none),(74,.iastore,75,none),(75,.aload 0,76,none),(76,.dup,77,none),(77,.getfield 42,80,none)],[(80,.iconst 1,81,none),(81,.isub,82,none),(82,.putfield 42,85,none),(85,.return_,86,none),(86,.aload 0,87,some 4),(87,.iload 1,88,none),(88,.iload 2,89,none),(89,.iload 3,90,none),(90,.invokevirtual 42,93,none),(93,.ifCond .eq 97,96,none)],[(96,.return_,97,none),(97,.aload 0,98,none),(98,.iload 2,99,none),(99,.iload 3,100,none),(100,.invokevirtual 48,103,none),(103,.istore 4,105,none),(105,.aload 0,106,none),(106,.getfield 80,109,none),(109,.iload 3,110,none),(110,.iaload,111,none),(111,.iconst 1,112,none)],[(112,.if_icmp .ne 134,115,none),(115,.aload 0,116,none),(116,.iconst 6,118,none),(118,.iload 4,120,none),(120,.aload 0,121,none),(121,.getfield 83,124,none),(124,.iload 3,125,none),(125,.iaload,126,none),(126,.iload 1,127,none),(127,.invokevirtual 52,130,none)],[(130,.pop,131,none),(131,.goto 158,134,none),(134,.aload 0,135,none),(135,.iload 3,136,none),(136,.iload 2,137,none),(137,.invokevirtual 48,140,none),(140,.istore 5,142,none),(142,.aload 0,143,none),(143,.iconst 5,144,none)],[(144,.iload 4,146,none),(146,.iload 5,148,none),(148,.iload 1,149,none),(149,.invokevirtual 52,152,none),(152,.pop,153,none),(153,.aload 0,154,none),(154,.iload 3,155,none),(155,.invokevirtual 47,158,none),(158,.aload 0,159,some 5),(159,.dup,160,none)],[(160,.getfield 42,163,none),(163,.iconst 1,164,none),(164,.isub,165,none),(165,.putfield 42,168,none),(168,.return_,169,none)]]
def cx_42:List (List Jvm.OM.Ent):=[[(0,.aload 0,1,none),(1,.getfield 80,4,none),(4,.iload 3,5,none),(5,.iaload,6,none),(6,.iconst 1,7,none),(7,.if_icmp .ne 57,10,none),(10,.aload 0,11,none),(11,.iload 1,12,none),(12,.aload 0,13,none),(13,.getfield 83,16,none)],[(16,.iload 3,17,none),(17,.iaload,18,none),(18,.invokevirtual 43,21,none),(21,.istore 4,23,none),(23,.iload 4,25,none),(25,.iconst 1,26,none),(26,.if_icmp .ne 41,29,none),(29,.aload 0,30,none),(30,.dup,31,none),(31,.getfield 42,34,none)],[(34,.iconst 1,35,none),(35,.isub,36,none),(36,.putfield 42,39,none),(39,.iconst 1,40,none),(40,.ireturn,41,none),(41,.iload 4,43,none),(43,.iconst 2,44,none),(44,.if_icmp .ne 55,47,none),(47,.aload 0,48,none)],[(48,.iload 2,49,none),(49,.iload 3,50,none),(50,.invokevirtual 45,53,none),(53,.iconst 1,54,none),(54,.ireturn,55,none),(55,.iconst 0,56,none),(56,.ireturn,57,none),(57,.aload 0,58,none),(58,.getfield 80,61,none),(61,.iload 2,62,none),(62,.iaload,63,none),(63,.iconst 1,64,none)],[(64,.if_icmp .ne 118,67,none),(67,.aload 0,68,none),(68,.iload 1,69,none),(69,.aload 0,70,none),(70,.getfield 83,73,none),(73,.iload 2,74,none),(74,.iaload,75,none)],[],[],[(118,.iconst 0,119,none),(119,.ireturn,120,none)]]
def cx_43:List (List Jvm.OM.Ent):=[[(0,.iload 1,1,none),(1,.iconst 5,2,none),(2,.if_icmp .eq 11,5,none),(5,.iload 1,6,none),(6,.iconst 6,8,none),(8,.if_icmp .ne 17,11,none),(11,.iload 2,12,some 3),(12,.ifCond .ne 17,15,none),(15,.iconst 1,16,none)],[(16,.ireturn,17,none),(17,.iload 1,18,some 3),(18,.iconst 7,20,none),(20,.if_icmp .eq 29,23,none),(23,.iload 1,24,none),(24,.iconst 8,26,none),(26,.if_icmp .ne 36,29,none),(29,.iload 2,30,some 3),(30,.iconst 1,31,none),(31,.if_icmp .ne 36,34,none)],[(34,.iconst 1,35,none),(35,.ireturn,36,none),(36,.iload 1,37,some 3),(37,.iconst 7,39,none),(39,.if_icmp .eq 48,42,none),(42,.iload 1,43,none),(43,.iconst 8,45,none),(45,.if_icmp .ne 54,48,none)],[(48,.iload 2,49,some 3),(49,.ifCond .ne 54,52,none),(52,.iconst 2,53,none),(53,.ireturn,54,none),(54,.iload 1,55,some 3),(55,.iconst 9,57,none),(57,.if_icmp .ne 76,60,none),(60,.iload 2,61,none),(61,.ifCond .eq 74,64,none)],[(64,.iload 2,65,none),(65,.iconst 1,66,none),(66,.if_icmp .eq 74,69,none),(69,.iload 2,70,none),(70,.iconst (-1),71,none),(71,.if_icmp .ne 76,74,none),(74,.iconst 2,75,some 3),(75,.ireturn,76,none),(76,.iconst 0,77,some 3),(77,.ireturn,78,none)]]
def cx_45:List (List Jvm.OM.Ent):=[[(0,.aload 0,1,none),(1,.iload 1,2,none),(2,.invokevirtual 47,5,none),(5,.aload 0,6,none),(6,.iload 2,7,none),(7,.invokevirtual 47,10,none),(10,.aload 0,11,none),(11,.getfield 80,14,none),(14,.iload 1,15,none),(15,.iconst 1,16,none)],[(16,.iastore,17,none),(17,.aload 0,18,none),(18,.getfield 83,21,none),(21,.iload 1,22,none),(22,.iconst 0,23,none),(23,.iastore,24,none),(24,.aload 0,25,none),(25,.dup,26,none),(26,.getfield 42,29,none),(29,.iconst 1,30,none),(30,.isub,31,none),(31,.putfield 42,34,none)],[(34,.return_,35,none)]]
def cx_47:List (List Jvm.OM.Ent):=[[(0,.iload 1,1,none),(1,.ifCond .lt 10,4,none),(4,.iload 1,5,none),(5,.iconst 96,7,none),(7,.if_icmp .lt 11,10,none),(10,.return_,11,some 2),(11,.aload 0,12,none),(12,.getfield 80,15,none),(15,.iload 1,16,none)],[(16,.iaload,17,none),(17,.iconst 3,18,none),(18,.if_icmp .ne 48,21,none),(21,.aload 0,22,none),(22,.getfield 83,25,none),(25,.iload 1,26,none),(26,.iaload,27,none),(27,.iconst 7,29,none),(29,.iand,30,none),(30,.istore 2,31,none),(31,.aload 0,32,none)],[(32,.getfield 86,35,none),(35,.iload 2,36,none),(36,.iaload,37,none),(37,.iload 1,38,none),(38,.if_icmp .ne 48,41,none),(41,.aload 0,42,none),(42,.getfield 86,45,none),(45,.iload 2,46,none),(46,.iconst (-1),47,none),(47,.iastore,48,none)],[(48,.return_,49,some 2)]]
def cx_48:List (List Jvm.OM.Ent):=[[(0,.iload 1,1,none),(1,.ifCond .lt 10,4,none),(4,.iload 1,5,none),(5,.iconst 96,7,none),(7,.if_icmp .lt 12,10,none),(10,.iconst 0,11,some 3),(11,.ireturn,12,none),(12,.aload 0,13,none),(13,.getfield 80,16,none)],[(16,.iload 1,17,none),(17,.iaload,18,none),(18,.istore 3,19,none),(19,.iload 3,20,none),(20,.iconst 3,21,none),(21,.if_icmp .ne 34,24,none),(24,.aload 0,25,none),(25,.getfield 83,28,none),(28,.iload 1,29,none),(29,.iaload,30,none),(30,.iconst 7,32,none)],[(32,.iand,33,none),(33,.ireturn,34,none),(34,.aload 0,35,none),(35,.iload 1,36,none),(36,.iload 2,37,none),(37,.invokevirtual 49,40,none),(40,.istore 4,42,none),(42,.iload 3,43,none),(43,.iconst 1,44,none),(44,.if_icmp .ne 65,47,none),(47,.aload 0,48,none)],[(48,.iconst 1,49,none),(49,.iload 4,51,none),(51,.aload 0,52,none),(52,.getfield 83,55,none),(55,.iload 1,56,none),(56,.iaload,57,none),(57,.iconst 0,58,none),(58,.invokevirtual 52,61,none),(61,.pop,62,none),(62,.goto 80,65,none)],[(65,.aload 0,66,none),(66,.iconst 2,67,none),(67,.iload 4,69,none),(69,.aload 0,70,none),(70,.getfield 83,73,none),(73,.iload 1,74,none),(74,.iaload,75,none),(75,.iconst 0,76,none),(76,.invokevirtual 52,79,none),(79,.pop,80,none)],[(80,.aload 0,81,some 5),(81,.getfield 80,84,none),(84,.iload 1,85,none),(85,.iconst 3,86,none),(86,.iastore,87,none),(87,.aload 0,88,none),(88,.getfield 83,91,none),(91,.iload 1,92,none),(92,.iload 4,94,none),(94,.iastore,95,none),(95,.aload 0,96,none)],[(96,.getfield 86,99,none),(99,.iload 4,101,none),(101,.iload 1,102,none),(102,.iastore,103,none),(103,.iload 4,105,none),(105,.ireturn,106,none)]]
def cx_49:List (List Jvm.OM.Ent):=[[(0,.iconst 0,1,none),(1,.istore 3,2,none),(2,.iload 3,3,some 4),(3,.aload 0,4,none),(4,.getfield 0,7,none),(7,.if_icmp .ge 33,10,none),(10,.iload 3,11,none),(11,.iconst 8,13,none),(13,.if_icmp .ge 33,16,none)],[(16,.aload 0,17,none),(17,.getfield 86,20,none),(20,.iload 3,21,none),(21,.iaload,22,none),(22,.ifCond .ge 27,25,none),(25,.iload 3,26,none),(26,.ireturn,27,none),(27,.iinc 3 1,30,none),(30,.goto 2,33,none)],[(33,.iconst (-1),34,some 4),(34,.istore 3,35,none),(35,.iconst 0,36,none),(36,.istore 4,38,none),(38,.iload 4,40,some 5),(40,.aload 0,41,none),(41,.getfield 42,44,none),(44,.if_icmp .ge 89,47,none),(47,.iload 4,49,none)],[(49,.iconst 96,51,none),(51,.if_icmp .ge 89,54,none),(54,.iload 4,56,none),(56,.iload 1,57,none),(57,.if_icmp .eq 83,60,none),(60,.iload 4,62,none),(62,.iload 2,63,none),(63,.if_icmp .eq 83,66,none)],[(66,.aload 0,67,none),(67,.getfield 80,70,none),(70,.iload 4,72,none),(72,.iaload,73,none),(73,.iconst 3,74,none),(74,.if_icmp .ne 83,77,none),(77,.iload 4,79,none),(79,.istore 3,80,none)],[(80,.goto 89,83,none),(83,.iinc 4 1,86,some 5),(86,.goto 38,89,none),(89,.iload 3,90,some 5),(90,.ifCond .ge 95,93,none),(93,.iconst 0,94,none),(94,.ireturn,95,none),(95,.aload 0,96,none)],[(96,.getfield 83,99,none),(99,.iload 3,100,none),(100,.iaload,101,none),(101,.iconst 7,103,none),(103,.iand,104,none),(104,.istore 4,106,none),(106,.aload 0,107,none),(107,.iconst 3,108,none),(108,.iconst 8,110,none),(110,.iload 3,111,none),(111,.iadd,112,none)],[(112,.iload 4,114,none),(114,.iconst 0,115,none),(115,.invokevirtual 52,118,none),(118,.pop,119,none),(119,.aload 0,120,none),(120,.getfield 80,123,none),(123,.iload 3,124,none),(124,.iconst 4,125,none),(125,.iastore,126,none),(126,.aload 0,127,none),(127,.getfield 83,130,none)],[(130,.iload 3,131,none),(131,.iconst 8,133,none),(133,.iload 3,134,none),(134,.iadd,135,none),(135,.iastore,136,none),(136,.aload 0,137,none),(137,.getfield 86,140,none),(140,.iload 4,142,none),(142,.iconst (-1),143,none),(143,.iastore,144,none)],[(144,.iload 4,146,none),(146,.ireturn,147,none)]]
def cx_50:List (List Jvm.OM.Ent):=[[(0,.aload 0,1,none),(1,.getfield 36,4,none),(4,.istore 1,5,none),(5,.iload 1,6,none),(6,.ifCond .lt 15,9,none),(9,.iload 1,10,none),(10,.iconst 32,12,none),(12,.if_icmp .lt 16,15,none),(15,.return_,16,some 2)],[(16,.aload 0,17,none),(17,.getfield 11,20,none),(20,.iload 1,21,none),(21,.iaload,22,none),(22,.istore 2,23,none),(23,.aload 0,24,none),(24,.getfield 42,27,none),(27,.iconst 1,28,none),(28,.if_icmp .lt 77,31,none),(31,.aload 0,32,none)],[(32,.getfield 80,35,none),(35,.iconst 0,36,none),(36,.iaload,37,none),(37,.iconst 1,38,none),(38,.if_icmp .ne 77,41,none),(41,.aload 0,42,none),(42,.iconst 4,43,none),(43,.iload 2,44,none),(44,.aload 0,45,none),(45,.getfield 83,48,none)],[(48,.iconst 0,49,none),(49,.iaload,50,none),(50,.iconst 0,51,none),(51,.invokevirtual 52,54,none),(54,.pop,55,none),(55,.aload 0,56,none),(56,.getfield 38,59,none),(59,.iload 1,60,none),(60,.iconst 2,61,none),(61,.iastore,62,none),(62,.aload 0,63,none),(63,.getfield 41,66,none)],[(66,.iload 1,67,none),(67,.aload 0,68,none),(68,.getfield 83,71,none),(71,.iconst 0,72,none),(72,.iaload,73,none),(73,.iastore,74,none),(74,.goto 115,77,none),(77,.aload 0,78,some 3),(78,.getfield 42,81,none)],[(81,.iconst 1,82,none),(82,.if_icmp .lt 115,85,none),(85,.aload 0,86,none),(86,.iconst 0,87,none),(87,.iconst (-1),88,none),(88,.invokevirtual 48,91,none),(91,.istore 3,92,none),(92,.aload 0,93,none),(93,.iconst 3,94,none),(94,.iload 2,95,none),(95,.iload 3,96,none)],[(96,.iconst 0,97,none),(97,.invokevirtual 52,100,none),(100,.pop,101,none),(101,.aload 0,102,none),(102,.getfield 38,105,none),(105,.iload 1,106,none),(106,.iconst 3,107,none),(107,.iastore,108,none),(108,.aload 0,109,none),(109,.getfield 41,112,none)],[(112,.iload 1,113,none),(113,.iload 3,114,none),(114,.iastore,115,none),(115,.aload 0,116,some 3),(116,.getfield 29,119,none),(119,.iload 1,120,none),(120,.aload 0,121,none),(121,.iconst 8,123,none),(123,.iconst 0,124,none),(124,.iconst (-2),126,none),(126,.iconst 0,127,none),(127,.invokevirtual 52,130,none)],[(130,.iastore,131,none),(131,.return_,132,none)]]
def cx_51:List (List Jvm.OM.Ent):=[[(0,.aload 0,1,none),(1,.getfield 36,4,none),(4,.istore 1,5,none),(5,.iload 1,6,none),(6,.ifCond .lt 15,9,none),(9,.iload 1,10,none),(10,.iconst 32,12,none),(12,.if_icmp .lt 16,15,none),(15,.return_,16,some 2)],[(16,.aload 0,17,none),(17,.getfield 42,20,none),(20,.iconst 1,21,none),(21,.if_icmp .lt 34,24,none),(24,.aload 0,25,none),(25,.getfield 80,28,none),(28,.iconst 0,29,none),(29,.iaload,30,none),(30,.iconst 1,31,none),(31,.if_icmp .ne 73,34,none)],[(34,.iconst 0,35,some 2),(35,.istore 2,36,none),(36,.aload 0,37,none),(37,.getfield 42,40,none),(40,.iconst 1,41,none),(41,.if_icmp .lt 55,44,none),(44,.aload 0,45,none),(45,.getfield 83,48,none)],[(48,.iconst 0,49,none),(49,.iaload,50,none),(50,.ifCond .eq 55,53,none),(53,.iconst 1,54,none),(54,.istore 2,55,none),(55,.aload 0,56,some 3),(56,.getfield 29,59,none),(59,.iload 1,60,none),(60,.aload 0,61,none),(61,.iconst 10,63,none),(63,.iload 2,64,none)],[(64,.iconst (-2),66,none),(66,.iconst (-2),68,none),(68,.invokevirtual 52,71,none),(71,.iastore,72,none),(72,.return_,73,none),(73,.aload 0,74,none),(74,.iconst 0,75,none),(75,.iconst (-1),76,none),(76,.invokevirtual 48,79,none),(79,.istore 2,80,none)],[(80,.aload 0,81,none),(81,.getfield 29,84,none),(84,.iload 1,85,none),(85,.aload 0,86,none),(86,.iconst 9,88,none),(88,.iload 2,89,none),(89,.iconst (-2),91,none),(91,.iconst (-2),93,none),(93,.invokevirtual 52,96,none)],[(96,.iastore,97,none),(97,.return_,98,none)]]
def cx_52:List (List Jvm.OM.Ent):=[[(0,.aload 0,1,none),(1,.getfield 18,4,none),(4,.ifCond .lt 17,7,none),(7,.aload 0,8,none),(8,.getfield 18,11,none),(11,.iconst 1024,14,none),(14,.if_icmp .lt 19,17,none)],[(17,.iconst (-1),18,some 5),(18,.ireturn,19,none),(19,.aload 0,20,none),(20,.getfield 18,23,none),(23,.istore 5,25,none),(25,.aload 0,26,none),(26,.getfield 56,29,none),(29,.iload 5,31,none),(31,.iload 1,32,none)],[(32,.iastore,33,none),(33,.aload 0,34,none),(34,.getfield 59,37,none),(37,.iload 5,39,none),(39,.iload 2,40,none),(40,.iastore,41,none),(41,.aload 0,42,none),(42,.getfield 62,45,none),(45,.iload 5,47,none),(47,.iload 3,48,none)],[(48,.iastore,49,none),(49,.aload 0,50,none),(50,.getfield 65,53,none),(53,.iload 5,55,none),(55,.iload 4,57,none),(57,.iastore,58,none),(58,.aload 0,59,none),(59,.dup,60,none),(60,.getfield 18,63,none),(63,.iconst 1,64,none)],[(64,.iadd,65,none),(65,.putfield 18,68,none),(68,.iload 5,70,none),(70,.ireturn,71,none)]]
def cx_53:List (List Jvm.OM.Ent):=[[(0,.aload 0,1,none),(1,.aload 0,2,none),(2,.getfield 77,5,none),(5,.iconst 0,6,none),(6,.iaload,7,none),(7,.putfield 15,10,none),(10,.iconst 0,11,none),(11,.istore 1,12,none),(12,.iload 1,13,some 2),(13,.aload 0,14,none),(14,.getfield 12,17,none)],[(17,.if_icmp .ge 43,20,none),(20,.iload 1,21,none),(21,.iconst 32,23,none),(23,.if_icmp .ge 43,26,none),(26,.aload 0,27,none),(27,.getfield 32,30,none),(30,.iload 1,31,none),(31,.aload 0,32,none)],[(32,.iload 1,33,none),(33,.invokevirtual 54,36,none),(36,.iastore,37,none),(37,.iinc 1 1,40,none),(40,.goto 12,43,none),(43,.iconst 0,44,some 2),(44,.istore 1,45,none),(45,.iload 1,46,some 2),(46,.aload 0,47,none),(47,.getfield 12,50,none)],[(50,.if_icmp .ge 70,53,none),(53,.iload 1,54,none),(54,.iconst 32,56,none),(56,.if_icmp .ge 70,59,none),(59,.aload 0,60,none),(60,.iload 1,61,none),(61,.invokevirtual 55,64,none)],[(64,.iinc 1 1,67,none),(67,.goto 45,70,none),(70,.aload 0,71,some 2),(71,.invokevirtual 57,74,none),(74,.aload 0,75,none),(75,.invokevirtual 58,78,none),(78,.return_,79,none)]]
def cx_54:List (List Jvm.OM.Ent):=[[(0,.iload 1,1,none),(1,.istore 2,2,none),(2,.iconst 0,3,none),(3,.istore 3,4,none),(4,.iload 3,5,some 4),(5,.iconst 32,7,none),(7,.if_icmp .gt 94,10,none),(10,.iload 2,11,none),(11,.ifCond .lt 28,14,none),(14,.iload 2,15,none),(15,.aload 0,16,none)],[(16,.getfield 12,19,none),(19,.if_icmp .ge 28,22,none),(22,.iload 2,23,none),(23,.iconst 32,25,none),(25,.if_icmp .lt 31,28,none),(28,.iconst (-2),30,some 4),(30,.ireturn,31,none),(31,.aload 0,32,none)],[(32,.getfield 20,35,none),(35,.iload 2,36,none),(36,.iaload,37,none),(37,.ifCond .lt 47,40,none),(40,.aload 0,41,none),(41,.getfield 20,44,none),(44,.iload 2,45,none),(45,.iaload,46,none),(46,.ireturn,47,none),(47,.aload 0,48,none)],[(48,.getfield 14,51,none),(51,.iload 2,52,none),(52,.iaload,53,none),(53,.istore 4,55,none),(55,.iload 4,57,none),(57,.ifCond .lt 67,60,none),(60,.iload 4,62,none),(62,.iconst 32,64,none)],[(64,.if_icmp .lt 70,67,none),(67,.iconst (-2),69,some 5),(69,.ireturn,70,none),(70,.aload 0,71,none),(71,.getfield 8,74,none),(74,.iload 4,76,none),(76,.iaload,77,none),(77,.iconst 16,79,none),(79,.if_icmp .ne 85,82,none)],[(82,.iload 4,84,none),(84,.ireturn,85,none),(85,.iload 4,87,none),(87,.istore 2,88,none),(88,.iinc 3 1,91,none),(91,.goto 4,94,none),(94,.iconst (-2),96,none)],[(96,.ireturn,97,none)]]
def cx_55:List (List Jvm.OM.Ent):=[[(0,.aload 0,1,none),(1,.getfield 29,4,none),(4,.iload 1,5,none),(5,.iaload,6,none),(6,.istore 2,7,none),(7,.iload 2,8,none),(8,.ifCond .lt 26,11,none),(11,.iload 2,12,none),(12,.aload 0,13,none),(13,.getfield 18,16,none)],[(16,.if_icmp .ge 26,19,none),(19,.iload 2,20,none),(20,.iconst 1024,23,none),(23,.if_icmp .lt 27,26,none),(26,.return_,27,some 3),(27,.aload 0,28,none),(28,.getfield 32,31,none),(31,.iload 1,32,none)],[(32,.iaload,33,none),(33,.istore 3,34,none),(34,.aload 0,35,none),(35,.getfield 8,38,none),(38,.iload 1,39,none),(39,.iaload,40,none),(40,.iconst 2,41,none),(41,.if_icmp .ne 52,44,none),(44,.aload 0,45,none),(45,.getfield 62,48,none)],[(48,.iload 2,49,none),(49,.iload 3,50,none),(50,.iastore,51,none),(51,.return_,52,none),(52,.aload 0,53,none),(53,.getfield 23,56,none),(56,.iload 1,57,none),(57,.iaload,58,none),(58,.istore 4,60,none),(60,.iload 4,62,none),(62,.ifCond .ge 85,65,none)],[(65,.aload 0,66,none),(66,.getfield 8,69,none),(69,.iload 1,70,none),(70,.iaload,71,none),(71,.iconst 16,73,none),(73,.if_icmp .ne 82,76,none),(76,.iload 1,77,none),(77,.istore 4,79,none),(79,.goto 85,82,none)],[(82,.iload 3,83,none),(83,.istore 4,85,none),(85,.aload 0,86,some 5),(86,.getfield 62,89,none),(89,.iload 2,90,none),(90,.iload 4,92,none),(92,.iastore,93,none),(93,.aload 0,94,none),(94,.getfield 65,97,none)],[(97,.iload 2,98,none),(98,.iload 3,99,none),(99,.iastore,100,none),(100,.return_,101,none)]]
def cx_56:List (List Jvm.OM.Ent):=[[(0,.iload 1,1,none),(1,.ifCond .lt 20,4,none),(4,.iload 1,5,none),(5,.iconst 32,7,none),(7,.if_icmp .ge 20,10,none),(10,.aload 0,11,none),(11,.getfield 8,14,none),(14,.iload 1,15,none),(15,.iaload,16,none)],[(16,.iconst 2,17,none),(17,.if_icmp .eq 22,20,none),(20,.iconst 0,21,some 2),(21,.ireturn,22,none),(22,.iconst 1,23,none),(23,.aload 0,24,none),(24,.getfield 11,27,none),(27,.iload 1,28,none),(28,.iaload,29,none),(29,.iconst 7,31,none),(31,.iand,32,none)],[(32,.ishl,33,none),(33,.ireturn,34,none)]]
def cx_57:List (List Jvm.OM.Ent):=[[(0,.aload 0,1,none),(1,.getfield 12,4,none),(4,.iconst 1,5,none),(5,.isub,6,none),(6,.istore 1,7,none),(7,.iload 1,8,some 2),(8,.ifCond .lt 80,11,none),(11,.iload 1,12,none),(12,.iconst 32,14,none),(14,.if_icmp .lt 20,17,none)],[(17,.goto 74,20,none),(20,.aload 0,21,none),(21,.getfield 35,24,none),(24,.iload 1,25,none),(25,.aload 0,26,none),(26,.getfield 35,29,none),(29,.iload 1,30,none),(30,.iaload,31,none),(31,.aload 0,32,none)],[(32,.iload 1,33,none),(33,.invokevirtual 56,36,none),(36,.ior,37,none),(37,.iastore,38,none),(38,.aload 0,39,none),(39,.getfield 14,42,none),(42,.iload 1,43,none),(43,.iaload,44,none),(44,.istore 2,45,none),(45,.iload 2,46,none),(46,.ifCond .lt 74,49,none)],[(49,.iload 2,50,none),(50,.iconst 32,52,none),(52,.if_icmp .ge 74,55,none),(55,.aload 0,56,none),(56,.getfield 35,59,none),(59,.iload 2,60,none),(60,.aload 0,61,none),(61,.getfield 35,64,none)],[(64,.iload 2,65,none),(65,.iaload,66,none),(66,.aload 0,67,none),(67,.getfield 35,70,none),(70,.iload 1,71,none),(71,.iaload,72,none),(72,.ior,73,none),(73,.iastore,74,none),(74,.iinc 1 (-1),77,some 2),(77,.goto 7,80,none)],[(80,.return_,81,none)]]
def cx_58:List (List Jvm.OM.Ent):=[[(0,.iconst 0,1,none),(1,.istore 1,2,none),(2,.iload 1,3,some 2),(3,.aload 0,4,none),(4,.getfield 12,7,none),(7,.if_icmp .ge 99,10,none),(10,.iload 1,11,none),(11,.iconst 32,13,none),(13,.if_icmp .ge 99,16,none)],[(16,.aload 0,17,none),(17,.getfield 17,20,none),(20,.iload 1,21,none),(21,.iaload,22,none),(22,.istore 2,23,none),(23,.aload 0,24,none),(24,.getfield 14,27,none),(27,.iload 1,28,none),(28,.iaload,29,none),(29,.istore 3,30,none),(30,.iload 2,31,none),(31,.ifCond .lt 61,34,none)],[(34,.iload 2,35,none),(35,.iconst 32,37,none),(37,.if_icmp .ge 61,40,none),(40,.aload 0,41,none),(41,.getfield 44,44,none),(44,.iload 1,45,none),(45,.aload 0,46,none),(46,.getfield 44,49,none)],[(49,.iload 2,50,none),(50,.iaload,51,none),(51,.aload 0,52,none),(52,.iload 2,53,none),(53,.invokevirtual 56,56,none),(56,.ior,57,none),(57,.iastore,58,none),(58,.goto 93,61,none),(61,.iload 3,62,some 4),(62,.ifCond .lt 86,65,none)],[(65,.iload 3,66,none),(66,.iconst 32,68,none),(68,.if_icmp .ge 86,71,none),(71,.aload 0,72,none),(72,.getfield 44,75,none),(75,.iload 1,76,none),(76,.aload 0,77,none),(77,.getfield 44,80,none)],[(80,.iload 3,81,none),(81,.iaload,82,none),(82,.iastore,83,none),(83,.goto 93,86,none),(86,.aload 0,87,some 4),(87,.getfield 44,90,none),(90,.iload 1,91,none),(91,.iconst 0,92,none),(92,.iastore,93,none),(93,.iinc 1 1,96,some 4)],[(96,.goto 2,99,none),(99,.iconst 0,100,some 2),(100,.istore 1,101,none),(101,.aload 0,102,none),(102,.getfield 15,105,none),(105,.ifCond .lt 136,108,none),(108,.aload 0,109,none),(109,.getfield 15,112,none)],[(112,.iconst 32,114,none),(114,.if_icmp .ge 136,117,none),(117,.aload 0,118,none),(118,.getfield 44,121,none),(121,.aload 0,122,none),(122,.getfield 15,125,none),(125,.iaload,126,none),(126,.aload 0,127,none),(127,.aload 0,128,none)],[(128,.getfield 15,131,none),(131,.invokevirtual 56,134,none),(134,.ior,135,none),(135,.istore 1,136,none),(136,.aload 0,137,some 2),(137,.getfield 12,140,none),(140,.ifCond .lt 162,143,none),(143,.aload 0,144,none)],[(144,.getfield 12,147,none),(147,.iconst 40,149,none),(149,.if_icmp .ge 162,152,none),(152,.aload 0,153,none),(153,.getfield 44,156,none),(156,.aload 0,157,none),(157,.getfield 12,160,none)],[(160,.iload 1,161,none),(161,.iastore,162,none),(162,.return_,163,some 2)]]
def cx_59:List (List Jvm.OM.Ent):=[[(0,.iconst 0,1,none),(1,.istore 1,2,none),(2,.iload 1,3,some 2),(3,.aload 0,4,none),(4,.getfield 12,7,none),(7,.if_icmp .gt 42,10,none),(10,.iload 1,11,none),(11,.iconst 40,13,none),(13,.if_icmp .ge 42,16,none)],[(16,.iconst 0,17,none),(17,.istore 2,18,none),(18,.iload 2,19,some 3),(19,.iconst 8,21,none),(21,.if_icmp .ge 36,24,none),(24,.aload 0,25,none),(25,.iload 1,26,none),(26,.iload 2,27,none),(27,.invokevirtual 60,30,none),(30,.iinc 2 1,33,none)],[(33,.goto 18,36,none),(36,.iinc 1 1,39,none),(39,.goto 2,42,none),(42,.return_,43,some 2)]]
def cx_60:List (List Jvm.OM.Ent):=[[(0,.iload 1,1,none),(1,.iconst 8,3,none),(3,.imul,4,none),(4,.iload 2,5,none),(5,.iadd,6,none),(6,.istore 3,7,none),(7,.iload 3,8,none),(8,.ifCond .lt 24,11,none),(11,.iload 3,12,none),(12,.iconst 320,15,none),(15,.if_icmp .ge 24,18,none)],[(18,.iload 1,19,none),(19,.iconst 40,21,none),(21,.if_icmp .lt 25,24,none),(24,.return_,25,some 4),(25,.aload 0,26,none),(26,.getfield 50,29,none),(29,.iload 3,30,none),(30,.iconst 0,31,none),(31,.iastore,32,none)],[(32,.aload 0,33,none),(33,.getfield 53,36,none),(36,.iload 3,37,none),(37,.iconst 0,38,none),(38,.iastore,39,none),(39,.aload 0,40,none),(40,.getfield 44,43,none),(43,.iload 1,44,none),(44,.iaload,45,none),(45,.iload 2,46,none),(46,.ishr,47,none),(47,.iconst 1,48,none)],[(48,.iand,49,none),(49,.ifCond .ne 53,52,none),(52,.return_,53,none),(53,.aload 0,54,none),(54,.getfield 50,57,none),(57,.iload 3,58,none),(58,.iconst 1,59,none),(59,.iastore,60,none),(60,.aload 0,61,none),(61,.getfield 53,64,none)],[(64,.iload 3,65,none),(65,.iload 2,66,none),(66,.iastore,67,none),(67,.iload 1,68,none),(68,.aload 0,69,none),(69,.getfield 12,72,none),(72,.if_icmp .ge 96,75,none),(75,.iload 1,76,none),(76,.iconst 32,78,none),(78,.if_icmp .ge 96,81,none)],[(81,.aload 0,82,none),(82,.getfield 8,85,none),(85,.iload 1,86,none),(86,.iaload,87,none),(87,.iconst 16,89,none),(89,.if_icmp .ne 96,92,none),(92,.iconst 1,93,none),(93,.goto 97,96,none)],[(96,.iconst 0,97,some 4),(97,.istore 4,99,some 4),(99,.iload 4,101,none),(101,.ifCond .eq 118,104,none),(104,.aload 0,105,none),(105,.getfield 35,108,none),(108,.iload 1,109,none),(109,.iaload,110,none),(110,.iload 2,111,none),(111,.ishr,112,none)],[(112,.iconst 1,113,none),(113,.iand,114,none),(114,.ifCond .eq 118,117,none),(117,.return_,118,none),(118,.aload 0,119,some 5),(119,.getfield 15,122,none),(122,.istore 5,124,none),(124,.iload 1,125,none),(125,.aload 0,126,none),(126,.getfield 12,129,none)],[(129,.if_icmp .ge 146,132,none),(132,.iload 1,133,none),(133,.iconst 32,135,none),(135,.if_icmp .ge 146,138,none),(138,.aload 0,139,none),(139,.getfield 17,142,none),(142,.iload 1,143,none),(143,.iaload,144,none)],[(144,.istore 5,146,none),(146,.iconst 1,147,some 6),(147,.istore 6,149,none),(149,.iconst 0,150,none),(150,.istore 7,152,none),(152,.iload 7,154,some 8),(154,.iconst 32,156,none),(156,.if_icmp .gt 258,159,none),(159,.iload 5,161,none)],[(161,.ifCond .lt 258,164,none),(164,.iload 5,166,none),(166,.aload 0,167,none),(167,.getfield 12,170,none),(170,.if_icmp .ge 258,173,none),(173,.iload 5,175,none),(175,.iconst 32,177,none)],[(177,.if_icmp .ge 258,180,none),(180,.aload 0,181,none),(181,.getfield 8,184,none),(184,.iload 5,186,none),(186,.iaload,187,none),(187,.iconst 2,188,none),(188,.if_icmp .ne 225,191,none),(191,.aload 0,192,none)],[(192,.getfield 11,195,none),(195,.iload 5,197,none),(197,.iaload,198,none),(198,.iload 2,199,none),(199,.if_icmp .ne 225,202,none),(202,.aload 0,203,none),(203,.iload 3,204,none),(204,.iload 5,206,none),(206,.iload 6,208,none)],[(208,.ifCond .eq 220,211,none),(211,.iload 4,213,none),(213,.ifCond .ne 220,216,none),(216,.iconst 1,217,none),(217,.goto 221,220,none),(220,.iconst 0,221,some 8),(221,.invokevirtual 61,224,some 8)],[(224,.return_,225,none),(225,.aload 0,226,some 8),(226,.getfield 35,229,none),(229,.iload 5,231,none),(231,.iaload,232,none),(232,.iload 2,233,none),(233,.ishr,234,none),(234,.iconst 1,235,none),(235,.iand,236,none),(236,.ifCond .eq 240,239,none),(239,.return_,240,none)],[(240,.iconst 0,241,none),(241,.istore 6,243,none),(243,.aload 0,244,none),(244,.getfield 17,247,none),(247,.iload 5,249,none),(249,.iaload,250,none),(250,.istore 5,252,none),(252,.iinc 7 1,255,none),(255,.goto 152,258,none)],[(258,.return_,259,some 8)]]
def cx_61:List (List Jvm.OM.Ent):=[[(0,.aload 0,1,none),(1,.getfield 38,4,none),(4,.iload 2,5,none),(5,.iaload,6,none),(6,.iconst 2,7,none),(7,.if_icmp .ne 30,10,none),(10,.aload 0,11,none),(11,.getfield 50,14,none),(14,.iload 1,15,none),(15,.iconst 2,16,none)],[(16,.iastore,17,none),(17,.aload 0,18,none),(18,.getfield 53,21,none),(21,.iload 1,22,none),(22,.aload 0,23,none),(23,.getfield 41,26,none),(26,.iload 2,27,none),(27,.iaload,28,none),(28,.iastore,29,none),(29,.return_,30,none),(30,.iload 3,31,none),(31,.ifCond .eq 63,34,none)],[(34,.aload 0,35,none),(35,.getfield 38,38,none),(38,.iload 2,39,none),(39,.iaload,40,none),(40,.iconst 3,41,none),(41,.if_icmp .ne 63,44,none),(44,.aload 0,45,none),(45,.getfield 50,48,none)],[(48,.iload 1,49,none),(49,.iconst 3,50,none),(50,.iastore,51,none),(51,.aload 0,52,none),(52,.getfield 53,55,none),(55,.iload 1,56,none),(56,.aload 0,57,none),(57,.getfield 41,60,none),(60,.iload 2,61,none),(61,.iaload,62,none),(62,.iastore,63,none),(63,.return_,64,some 4)]]
def cx_62:List (List Jvm.OM.Ent):=[[(0,.iload 1,1,none),(1,.iconst 2,2,none),(2,.if_icmp .ne 7,5,none),(5,.iload 2,6,none),(6,.ireturn,7,none),(7,.iload 1,8,none),(8,.iconst 3,9,none),(9,.if_icmp .ne 22,12,none),(12,.aload 0,13,none),(13,.getfield 71,16,none)],[(16,.iload 2,17,none),(17,.iconst 7,19,none),(19,.iand,20,none),(20,.iaload,21,none),(21,.ireturn,22,none),(22,.iload 1,23,none),(23,.iconst 1,24,none),(24,.if_icmp .ne 45,27,none),(27,.iload 2,28,none),(28,.ifCond .lt 45,31,none),(31,.iload 2,32,none)],[(32,.iconst 128,35,none),(35,.if_icmp .ge 45,38,none),(38,.aload 0,39,none),(39,.getfield 68,42,none),(42,.iload 2,43,none),(43,.iaload,44,none),(44,.ireturn,45,none),(45,.iconst 0,46,some 3),(46,.ireturn,47,none)]]
def cx_63:List (List Jvm.OM.Ent):=[[(0,.aload 0,1,none),(1,.aload 0,2,none),(2,.getfield 21,5,none),(5,.invokevirtual 64,8,none),(8,.istore 1,9,none),(9,.aload 0,10,none),(10,.iload 1,11,none),(11,.putfield 21,14,none),(14,.aload 0,15,none),(15,.dup,16,none)],[(16,.getfield 24,19,none),(19,.iconst 1,20,none),(20,.iadd,21,none),(21,.putfield 24,24,none),(24,.return_,25,none)]]
def cx_64:List (List Jvm.OM.Ent):=[[(0,.iload 1,1,none),(1,.ifCond .lt 18,4,none),(4,.iload 1,5,none),(5,.aload 0,6,none),(6,.getfield 12,9,none),(9,.if_icmp .ge 18,12,none),(12,.iload 1,13,none),(13,.iconst 32,15,none),(15,.if_icmp .lt 21,18,none)],[(18,.iconst (-2),20,some 2),(20,.ireturn,21,none),(21,.aload 0,22,none),(22,.getfield 26,25,none),(25,.iload 1,26,none),(26,.iaload,27,none),(27,.istore 2,28,none),(28,.iconst 0,29,none),(29,.istore 3,30,none),(30,.iload 3,31,some 4),(31,.iconst 1024,34,none)],[(34,.if_icmp .ge 163,37,none),(37,.iload 2,38,none),(38,.ifCond .lt 56,41,none),(41,.iload 2,42,none),(42,.aload 0,43,none),(43,.getfield 18,46,none),(46,.if_icmp .ge 56,49,none)],[(49,.iload 2,50,none),(50,.iconst 1024,53,none),(53,.if_icmp .lt 59,56,none),(56,.iconst (-2),58,some 4),(58,.ireturn,59,none),(59,.aload 0,60,none),(60,.getfield 56,63,none),(63,.iload 2,64,none)],[(64,.iaload,65,none),(65,.istore 4,67,none),(67,.iload 4,69,none),(69,.iconst 8,71,none),(71,.if_icmp .ne 81,74,none),(74,.aload 0,75,none),(75,.getfield 62,78,none),(78,.iload 2,79,none),(79,.iaload,80,none)],[(80,.ireturn,81,none),(81,.iload 4,83,none),(83,.iconst 9,85,none),(85,.if_icmp .ne 119,88,none),(88,.aload 0,89,none),(89,.getfield 71,92,none),(92,.aload 0,93,none),(93,.getfield 59,96,none)],[(96,.iload 2,97,none),(97,.iaload,98,none),(98,.iconst 7,100,none),(100,.iand,101,none),(101,.iaload,102,none),(102,.ifCond .eq 112,105,none),(105,.aload 0,106,none),(106,.getfield 62,109,none),(109,.iload 2,110,none),(110,.iaload,111,none),(111,.ireturn,112,none)],[(112,.aload 0,113,none),(113,.getfield 65,116,none),(116,.iload 2,117,none),(117,.iaload,118,none),(118,.ireturn,119,none),(119,.iload 4,121,none),(121,.iconst 10,123,none),(123,.if_icmp .ne 149,126,none),(126,.aload 0,127,none),(127,.getfield 59,130,none)],[(130,.iload 2,131,none),(131,.iaload,132,none),(132,.ifCond .eq 142,135,none),(135,.aload 0,136,none),(136,.getfield 62,139,none),(139,.iload 2,140,none),(140,.iaload,141,none),(141,.ireturn,142,none),(142,.aload 0,143,none),(143,.getfield 65,146,none)],[(146,.iload 2,147,none),(147,.iaload,148,none),(148,.ireturn,149,none),(149,.aload 0,150,none),(150,.iload 2,151,none),(151,.invokevirtual 65,154,none),(154,.iinc 2 1,157,none),(157,.iinc 3 1,160,none)],[(160,.goto 30,163,none),(163,.iconst (-2),165,none),(165,.ireturn,166,none)]]
def cx_65:List (List Jvm.OM.Ent):=[[(0,.aload 0,1,none),(1,.getfield 56,4,none),(4,.iload 1,5,none),(5,.iaload,6,none),(6,.istore 2,7,none),(7,.aload 0,8,none),(8,.getfield 59,11,none),(11,.iload 1,12,none),(12,.iaload,13,none),(13,.istore 3,14,none),(14,.aload 0,15,none),(15,.getfield 62,18,none)],[(18,.iload 1,19,none),(19,.iaload,20,none),(20,.istore 4,22,none),(22,.aload 0,23,none),(23,.getfield 65,26,none),(26,.iload 1,27,none),(27,.iaload,28,none),(28,.istore 5,30,none),(30,.iload 2,31,none),(31,.iconst 1,32,none)],[(32,.if_icmp .ne 49,35,none),(35,.aload 0,36,none),(36,.getfield 71,39,none),(39,.iload 3,40,none),(40,.iconst 7,42,none),(42,.iand,43,none),(43,.iload 4,45,none),(45,.iastore,46,none),(46,.goto 225,49,none)],[(49,.iload 2,50,none),(50,.iconst 2,51,none),(51,.if_icmp .ne 72,54,none),(54,.aload 0,55,none),(55,.getfield 71,58,none),(58,.iload 3,59,none),(59,.iconst 7,61,none),(61,.iand,62,none),(62,.aload 0,63,none),(63,.iload 4,65,none)],[(65,.invokevirtual 66,68,none),(68,.iastore,69,none),(69,.goto 225,72,none),(72,.iload 2,73,none),(73,.iconst 3,74,none),(74,.if_icmp .ne 95,77,none),(77,.aload 0,78,none),(78,.iload 3,79,none),(79,.aload 0,80,none)],[(80,.getfield 71,83,none),(83,.iload 4,85,none),(85,.iconst 7,87,none),(87,.iand,88,none),(88,.iaload,89,none),(89,.invokevirtual 67,92,none),(92,.goto 225,95,none),(95,.iload 2,96,none)],[(96,.iconst 4,97,none),(97,.if_icmp .ne 110,100,none),(100,.aload 0,101,none),(101,.iload 3,102,none),(102,.iload 4,104,none),(104,.invokevirtual 67,107,none),(107,.goto 225,110,none),(110,.iload 2,111,none),(111,.iconst 5,112,none)],[(112,.if_icmp .ne 160,115,none),(115,.aload 0,116,none),(116,.getfield 71,119,none),(119,.iload 3,120,none),(120,.iconst 7,122,none),(122,.iand,123,none),(123,.iaload,124,none),(124,.istore 6,126,none),(126,.aload 0,127,none),(127,.getfield 71,130,none)],[(130,.iload 4,132,none),(132,.iconst 7,134,none),(134,.iand,135,none),(135,.iaload,136,none),(136,.istore 7,138,none),(138,.aload 0,139,none),(139,.getfield 71,142,none),(142,.iload 3,143,none),(143,.iconst 7,145,none)],[(145,.iand,146,none),(146,.aload 0,147,none),(147,.iload 5,149,none),(149,.iload 6,151,none),(151,.iload 7,153,none),(153,.invokevirtual 68,156,none),(156,.iastore,157,none),(157,.goto 225,160,none)],[(160,.iload 2,161,none),(161,.iconst 6,163,none),(163,.if_icmp .ne 199,166,none),(166,.aload 0,167,none),(167,.getfield 71,170,none),(170,.iload 3,171,none),(171,.iconst 7,173,none),(173,.iand,174,none),(174,.iaload,175,none),(175,.istore 6,177,none)],[(177,.aload 0,178,none),(178,.getfield 71,181,none),(181,.iload 3,182,none),(182,.iconst 7,184,none),(184,.iand,185,none),(185,.aload 0,186,none),(186,.iload 5,188,none),(188,.iload 6,190,none),(190,.iload 4,192,none)],[(192,.invokevirtual 68,195,none),(195,.iastore,196,none),(196,.goto 225,199,none),(199,.iload 2,200,none),(200,.iconst 7,202,none),(202,.if_icmp .ne 225,205,none),(205,.aload 0,206,none),(206,.getfield 71,209,none)],[(209,.iload 3,210,none),(210,.iconst 7,212,none),(212,.iand,213,none),(213,.iconst 0,214,none),(214,.aload 0,215,none),(215,.getfield 71,218,none),(218,.iload 3,219,none),(219,.iconst 7,221,none),(221,.iand,222,none),(222,.iaload,223,none),(223,.isub,224,none)],[(224,.iastore,225,none),(225,.return_,226,some 6)]]
def cx_66:List (List Jvm.OM.Ent):=[[(0,.iload 1,1,none),(1,.ifCond .lt 11,4,none),(4,.iload 1,5,none),(5,.iconst 128,8,none),(8,.if_icmp .lt 13,11,none),(11,.iconst 0,12,some 2),(12,.ireturn,13,none),(13,.aload 0,14,none),(14,.getfield 68,17,none)],[(17,.iload 1,18,none),(18,.iaload,19,none),(19,.ireturn,20,none)]]
def cx_67:List (List Jvm.OM.Ent):=[[(0,.iload 1,1,none),(1,.ifCond .lt 11,4,none),(4,.iload 1,5,none),(5,.iconst 128,8,none),(8,.if_icmp .lt 12,11,none),(11,.return_,12,some 3),(12,.aload 0,13,none),(13,.getfield 68,16,none)],[(16,.iload 1,17,none),(17,.iload 2,18,none),(18,.iastore,19,none),(19,.iload 1,20,none),(20,.iconst 8,22,none),(22,.if_icmp .ge 35,25,none),(25,.aload 0,26,none),(26,.iload 1,27,none),(27,.putfield 27,30,none),(30,.aload 0,31,none),(31,.iload 2,32,none)],[(32,.putfield 30,35,none),(35,.return_,36,some 3)]]
def cx_68:List (List Jvm.OM.Ent):=[[(0,.iload 1,1,none),(1,.iconst 5,2,none),(2,.if_icmp .ne 9,5,none),(5,.iload 2,6,none),(6,.iload 3,7,none),(7,.iadd,8,none),(8,.ireturn,9,none),(9,.iload 1,10,none),(10,.iconst 6,12,none),(12,.if_icmp .ne 19,15,none),(15,.iload 2,16,none)],[(16,.iload 3,17,none),(17,.isub,18,none),(18,.ireturn,19,none),(19,.iload 1,20,none),(20,.iconst 7,22,none),(22,.if_icmp .ne 29,25,none),(25,.iload 2,26,none),(26,.iload 3,27,none),(27,.imul,28,none),(28,.ireturn,29,none),(29,.iload 1,30,none),(30,.iconst 8,32,none)],[(32,.if_icmp .ne 45,35,none),(35,.iload 3,36,none),(36,.ifCond .ne 41,39,none),(39,.iconst 0,40,none),(40,.ireturn,41,none),(41,.iload 2,42,none),(42,.iload 3,43,none),(43,.idiv,44,none),(44,.ireturn,45,none),(45,.iload 1,46,none),(46,.iconst 9,48,none)],[(48,.if_icmp .ne 61,51,none),(51,.iload 3,52,none),(52,.ifCond .ne 57,55,none),(55,.iconst 0,56,none),(56,.ireturn,57,none),(57,.iload 2,58,none),(58,.iload 3,59,none),(59,.irem,60,none),(60,.ireturn,61,none),(61,.iload 1,62,none),(62,.iconst 10,64,none)],[(64,.if_icmp .ne 78,67,none),(67,.iload 2,68,none),(68,.iload 3,69,none),(69,.if_icmp .ge 76,72,none),(72,.iconst 1,73,none),(73,.goto 77,76,none),(76,.iconst 0,77,none),(77,.ireturn,78,some 4),(78,.iload 1,79,none),(79,.iconst 11,81,none)],[(81,.if_icmp .ne 95,84,none),(84,.iload 2,85,none),(85,.iload 3,86,none),(86,.if_icmp .ne 93,89,none),(89,.iconst 1,90,none),(90,.goto 94,93,none),(93,.iconst 0,94,none),(94,.ireturn,95,some 4),(95,.iconst 0,96,none)],[(96,.ireturn,97,none)]]
def me_0:Jvm.OM.Mth:=(⟨"LocListDebug","<init>","(I)V"⟩,prog_1_method_1_code,3,2,25,none,1,0,false,cx_0.flatten)
def me_1:Jvm.OM.Mth:=(⟨"LocListDebug","addToken","(II)Z"⟩,prog_1_method_2_code,3,0,0,(some .boolean),2,0,false,cx_1.flatten)
def me_4:Jvm.OM.Mth:=(⟨"LocListDebug","compile","()I"⟩,prog_1_method_5_code,2,10,152,(some .int),0,0,false,cx_4.flatten)
def me_6:Jvm.OM.Mth:=(⟨"LocListDebug","statementCount","()I"⟩,prog_1_method_7_code,1,0,0,(some .int),0,0,false,cx_6.flatten)
def me_8:Jvm.OM.Mth:=(⟨"LocListDebug","step","()I"⟩,prog_1_method_9_code,1,4,65,(some .int),0,0,false,cx_8.flatten)
def me_9:Jvm.OM.Mth:=(⟨"LocListDebug","run","(I)I"⟩,prog_1_method_10_code,4,4,65,(some .int),1,0,false,cx_9.flatten)
def me_10:Jvm.OM.Mth:=(⟨"LocListDebug","restart","()Z"⟩,prog_1_method_11_code,1,1,13,(some .boolean),0,0,false,cx_10.flatten)
def me_11:Jvm.OM.Mth:=(⟨"LocListDebug","where","()I"⟩,prog_1_method_12_code,1,0,0,(some .int),0,0,false,cx_11.flatten)
def me_13:Jvm.OM.Mth:=(⟨"LocListDebug","isAvailable","(I)Z"⟩,prog_1_method_14_code,3,1,12,(some .boolean),1,0,false,cx_13.flatten)
def me_14:Jvm.OM.Mth:=(⟨"LocListDebug","value","(I)I"⟩,prog_1_method_15_code,3,2,26,(some .int),1,0,false,cx_14.flatten)
def me_15:Jvm.OM.Mth:=(⟨"LocListDebug","lastVar","()I"⟩,prog_1_method_16_code,1,0,0,(some .int),0,0,false,cx_15.flatten)
def me_16:Jvm.OM.Mth:=(⟨"LocListDebug","lastValue","()I"⟩,prog_1_method_17_code,1,0,0,(some .int),0,0,false,cx_16.flatten)
def me_17:Jvm.OM.Mth:=(⟨"LocListDebug","clearAll","()V"⟩,prog_1_method_18_code,1,1,13,none,0,0,true,cx_17.flatten)
def me_18:Jvm.OM.Mth:=(⟨"LocListDebug","clearBreaks","()V"⟩,prog_1_method_19_code,2,0,0,none,0,0,true,cx_18.flatten)
def me_19:Jvm.OM.Mth:=(⟨"LocListDebug","restartMachine","()V"⟩,prog_1_method_20_code,2,0,0,none,0,0,true,cx_19.flatten)
def me_20:Jvm.OM.Mth:=(⟨"LocListDebug","breakAt","(I)Z"⟩,prog_1_method_21_code,2,0,0,(some .boolean),1,0,true,cx_20.flatten)
def me_21:Jvm.OM.Mth:=(⟨"LocListDebug","stopIndex","()I"⟩,prog_1_method_22_code,1,0,0,(some .int),0,0,true,cx_21.flatten)
def me_22:Jvm.OM.Mth:=(⟨"LocListDebug","parseAll","()I"⟩,prog_1_method_23_code,2,9,139,(some .int),0,0,true,cx_22.flatten)
def me_23:Jvm.OM.Mth:=(⟨"LocListDebug","beginParse","()V"⟩,prog_1_method_24_code,1,1,13,none,0,0,true,cx_23.flatten)
def me_24:Jvm.OM.Mth:=(⟨"LocListDebug","feed","(II)Z"⟩,prog_1_method_25_code,3,8,125,(some .boolean),2,0,true,cx_24.flatten)
def me_25:Jvm.OM.Mth:=(⟨"LocListDebug","feedStatementStart","(II)Z"⟩,prog_1_method_26_code,4,1,16,(some .boolean),2,0,true,cx_25.flatten)
def me_26:Jvm.OM.Mth:=(⟨"LocListDebug","newStatement","(I)I"⟩,prog_1_method_27_code,5,0,0,(some .int),1,0,true,cx_26.flatten)
def me_27:Jvm.OM.Mth:=(⟨"LocListDebug","openBlock","()Z"⟩,prog_1_method_28_code,1,0,0,(some .boolean),0,0,true,cx_27.flatten)
def me_28:Jvm.OM.Mth:=(⟨"LocListDebug","curIsAssign","()Z"⟩,prog_1_method_29_code,1,0,0,(some .boolean),0,0,true,cx_28.flatten)
def me_29:Jvm.OM.Mth:=(⟨"LocListDebug","resetExpr","()V"⟩,prog_1_method_30_code,2,0,0,none,0,0,true,cx_29.flatten)
def me_30:Jvm.OM.Mth:=(⟨"LocListDebug","feedOperand","(II)Z"⟩,prog_1_method_31_code,4,1,14,(some .boolean),2,0,true,cx_30.flatten)
def me_31:Jvm.OM.Mth:=(⟨"LocListDebug","feedOperator","(I)Z"⟩,prog_1_method_32_code,3,7,111,(some .boolean),1,0,true,cx_31.flatten)
def me_32:Jvm.OM.Mth:=(⟨"LocListDebug","takeBinary","(I)Z"⟩,prog_1_method_33_code,3,6,97,(some .boolean),1,0,true,cx_32.flatten)
def me_34:Jvm.OM.Mth:=(⟨"LocListDebug","isBinaryToken","(I)Z"⟩,prog_1_method_35_code,2,0,0,(some .boolean),1,0,true,cx_34.flatten)
def me_35:Jvm.OM.Mth:=(⟨"LocListDebug","precedence","(I)I"⟩,prog_1_method_36_code,2,0,0,(some .int),1,0,true,cx_35.flatten)
def me_36:Jvm.OM.Mth:=(⟨"LocListDebug","pushOp","(I)Z"⟩,prog_1_method_37_code,2,0,0,(some .boolean),1,0,true,cx_36.flatten)
def me_37:Jvm.OM.Mth:=(⟨"LocListDebug","reduceWhile","(I)V"⟩,prog_1_method_38_code,5,5,81,none,1,0,true,cx_37.flatten)
def me_38:Jvm.OM.Mth:=(⟨"LocListDebug","pushEntry","(II)Z"⟩,prog_1_method_39_code,3,0,0,(some .boolean),2,0,true,cx_38.flatten)
def me_39:Jvm.OM.Mth:=(⟨"LocListDebug","applyOp","(I)V"⟩,prog_1_method_40_code,2,4,68,none,1,0,true,cx_39.flatten)
def me_41:Jvm.OM.Mth:=(⟨"LocListDebug","applyBinary","(I)V"⟩,prog_1_method_42_code,6,3,51,none,1,2,true,cx_41.flatten)
def me_42:Jvm.OM.Mth:=(⟨"LocListDebug","simplify","(III)Z"⟩,prog_1_method_43_code,5,2,28,(some .boolean),3,0,true,cx_42.flatten)
def me_43:Jvm.OM.Mth:=(⟨"LocListDebug","rightIdentity","(II)I"⟩,prog_1_method_44_code,3,0,0,(some .int),2,0,true,cx_43.flatten)
def me_45:Jvm.OM.Mth:=(⟨"LocListDebug","foldToZero","(II)V"⟩,prog_1_method_46_code,3,1,14,none,2,0,true,cx_45.flatten)
def me_47:Jvm.OM.Mth:=(⟨"LocListDebug","releaseEntry","(I)V"⟩,prog_1_method_48_code,3,0,0,none,1,0,true,cx_47.flatten)
def me_48:Jvm.OM.Mth:=(⟨"LocListDebug","materialize","(II)I"⟩,prog_1_method_49_code,5,2,33,(some .int),2,0,true,cx_48.flatten)
def me_49:Jvm.OM.Mth:=(⟨"LocListDebug","allocRegister","(II)I"⟩,prog_1_method_50_code,5,1,17,(some .int),2,0,true,cx_49.flatten)
def me_50:Jvm.OM.Mth:=(⟨"LocListDebug","finishAssignment","()V"⟩,prog_1_method_51_code,4,3,51,none,0,2,true,cx_50.flatten)
def me_51:Jvm.OM.Mth:=(⟨"LocListDebug","finishCondition","()V"⟩,prog_1_method_52_code,3,3,51,none,0,2,true,cx_51.flatten)
def me_52:Jvm.OM.Mth:=(⟨"LocListDebug","emit","(IIII)I"⟩,prog_1_method_53_code,6,0,0,(some .int),4,0,true,cx_52.flatten)
def me_53:Jvm.OM.Mth:=(⟨"LocListDebug","linkStatements","()V"⟩,prog_1_method_54_code,2,2,33,none,0,2,true,cx_53.flatten)
def me_54:Jvm.OM.Mth:=(⟨"LocListDebug","successorOf","(I)I"⟩,prog_1_method_55_code,5,0,0,(some .int),1,0,true,cx_54.flatten)
def me_55:Jvm.OM.Mth:=(⟨"LocListDebug","patchTerminator","(I)V"⟩,prog_1_method_56_code,5,0,0,none,1,0,true,cx_55.flatten)
def me_56:Jvm.OM.Mth:=(⟨"LocListDebug","bitOf","(I)I"⟩,prog_1_method_57_code,2,0,0,(some .int),1,0,true,cx_56.flatten)
def me_57:Jvm.OM.Mth:=(⟨"LocListDebug","computeMasks","()V"⟩,prog_1_method_58_code,3,1,16,none,0,3,true,cx_57.flatten)
def me_58:Jvm.OM.Mth:=(⟨"LocListDebug","computeDefs","()V"⟩,prog_1_method_59_code,4,1,16,none,0,3,true,cx_58.flatten)
def me_59:Jvm.OM.Mth:=(⟨"LocListDebug","buildLocationLists","()V"⟩,prog_1_method_60_code,3,2,34,none,0,0,true,cx_59.flatten)
def me_60:Jvm.OM.Mth:=(⟨"LocListDebug","locate","(II)V"⟩,prog_1_method_61_code,8,1,15,none,2,0,true,cx_60.flatten)
def me_61:Jvm.OM.Mth:=(⟨"LocListDebug","describeDefinition","(IIZ)V"⟩,prog_1_method_62_code,4,0,0,none,3,0,true,cx_61.flatten)
def me_62:Jvm.OM.Mth:=(⟨"LocListDebug","readLocation","(II)I"⟩,prog_1_method_63_code,3,0,0,(some .int),2,0,true,cx_62.flatten)
def me_63:Jvm.OM.Mth:=(⟨"LocListDebug","stepOnce","()V"⟩,prog_1_method_64_code,2,3,52,none,0,0,true,cx_63.flatten)
def me_64:Jvm.OM.Mth:=(⟨"LocListDebug","execStatement","(I)I"⟩,prog_1_method_65_code,5,2,36,(some .int),1,0,true,cx_64.flatten)
def me_65:Jvm.OM.Mth:=(⟨"LocListDebug","execInstruction","(I)V"⟩,prog_1_method_66_code,8,1,17,none,1,2,true,cx_65.flatten)
def me_66:Jvm.OM.Mth:=(⟨"LocListDebug","load","(I)I"⟩,prog_1_method_67_code,2,0,0,(some .int),1,0,true,cx_66.flatten)
def me_67:Jvm.OM.Mth:=(⟨"LocListDebug","store","(II)V"⟩,prog_1_method_68_code,3,0,0,none,2,0,true,cx_67.flatten)
def me_68:Jvm.OM.Mth:=(⟨"LocListDebug","arith","(III)I"⟩,prog_1_method_69_code,4,0,0,(some .int),3,0,true,cx_68.flatten)
def ms1:List Jvm.OM.Mth:=[me_0,me_1,Jvm.OM.m0,Jvm.OM.m0,me_4,Jvm.OM.m0,me_6,Jvm.OM.m0,me_8,me_9,me_10,me_11,Jvm.OM.m0,me_13,me_14,me_15,me_16,me_17,me_18,me_19,me_20,me_21,me_22,me_23,me_24,me_25,me_26,me_27,me_28,me_29,me_30,me_31,me_32,Jvm.OM.m0,me_34,me_35,me_36,me_37,me_38,me_39,Jvm.OM.m0,me_41,me_42,me_43,Jvm.OM.m0,me_45,Jvm.OM.m0,me_47,me_48,me_49,me_50,me_51,me_52,me_53,me_54,me_55,me_56,me_57,me_58,me_59,me_60,me_61,me_62,me_63,me_64,me_65,me_66,me_67,me_68]
def fds1:List (String×String×Nat):=[("regCount","I",0),("tokKind","[I",2),("running","Z",4),("tokArg","[I",5),("errPos","I",6),("stKind","[I",8),("tokCount","I",9),("stVar","[I",11),("stmtCount","I",12),("stParent","[I",14),("topLast","I",15),("stPrev","[I",17),("codeLen","I",18),("stNext","[I",20),("cur","I",21),("stFirst","[I",23),("steps","I",24),("stStart","[I",26),("lastV","I",27),("stTerm","[I",29),("lastVal","I",30),("stSucc","[I",32),("pState","I",33),("stMask","[I",35),("curStmt","I",36),("stResKind","[I",38),("blkDepth","I",39),("stResVal","[I",41),("entTop","I",42),("stDef","[I",44),("opTop","I",45),("brk","[Z",47),("parenDepth","I",48),("locKind","[I",50),("locVal","[I",53),("cOp","[I",56),("cA","[I",59),("cB","[I",62),("cC","[I",65),("mem","[I",68),("reg","[I",71),("blkOwner","[I",74),("blkLast","[I",77),("entKind","[I",80),("entVal","[I",83),("regOwner","[I",86),("opStk","[I",89),("cmpSeen","[Z",92)]
def arr1:List (FieldType×Nat):=[(.int,96),(.int,96),(.int,32),(.int,32),(.int,32),(.int,32),(.int,32),(.int,32),(.int,32),(.int,32),(.int,32),(.int,32),(.int,32),(.int,32),(.int,40),(.boolean,32),(.int,320),(.int,320),(.int,1024),(.int,1024),(.int,1024),(.int,1024),(.int,128),(.int,8),(.int,40),(.int,40),(.int,96),(.int,96),(.int,8),(.int,96),(.boolean,96)]
def cls1:Jvm.OM.Cls:=("LocListDebug",79,[("MAX_STMTS","I"),("CODE_MAX","I"),("MEM_SIZE","I"),("STACK_MAX","I"),("BLOCK_MAX","I"),("LOC_MAX","I"),("SPILL_BASE","I"),("I_LDI","I"),("I_LD","I"),("I_ST","I"),("I_STI","I"),("I_OP","I"),("I_OPI","I"),("I_NEG","I"),("I_STOP","I"),("I_BR","I"),("I_BRK","I"),("OP_NEG","I"),("OP_PAREN","I"),("E_CONST","I"),("E_VAR","I"),("E_REG","I"),("E_SLOT","I"),("L_NONE","I"),("L_SLOT","I"),("L_CONST","I"),("L_REG","I"),("P_STMT","I"),("P_ASSIGN","I"),("P_OPERAND","I"),("P_OPERATOR","I")],fds1,arr1,true,[(none,7,"MAX_STMTS","I"),(none,13,"CODE_MAX","I"),(none,16,"MEM_SIZE","I"),(none,19,"STACK_MAX","I"),(none,22,"BLOCK_MAX","I"),(none,25,"LOC_MAX","I"),(none,28,"SPILL_BASE","I"),(none,31,"I_LDI","I"),(none,34,"I_LD","I"),(none,37,"I_ST","I"),(none,40,"I_STI","I"),(none,43,"I_OP","I"),(none,46,"I_OPI","I"),(none,49,"I_NEG","I"),(none,52,"I_STOP","I"),(none,55,"I_BR","I"),(none,58,"I_BRK","I"),(none,61,"OP_NEG","I"),(none,64,"OP_PAREN","I"),(none,67,"E_CONST","I"),(none,70,"E_VAR","I"),(none,73,"E_REG","I"),(none,76,"E_SLOT","I"),(none,79,"L_NONE","I"),(none,82,"L_SLOT","I"),(none,85,"L_CONST","I"),(none,88,"L_REG","I"),(none,91,"P_STMT","I"),(none,94,"P_ASSIGN","I"),(none,97,"P_OPERAND","I"),(none,100,"P_OPERATOR","I"),(some .int,103,"tokKind","[I"),(some .int,107,"tokArg","[I"),(some .int,110,"stKind","[I"),(some .int,113,"stVar","[I"),(some .int,116,"stParent","[I"),(some .int,119,"stPrev","[I"),(some .int,122,"stNext","[I"),(some .int,125,"stFirst","[I"),(some .int,128,"stStart","[I"),(some .int,131,"stTerm","[I"),(some .int,134,"stSucc","[I"),(some .int,137,"stMask","[I"),(some .int,140,"stResKind","[I"),(some .int,143,"stResVal","[I"),(some .int,146,"stDef","[I"),(some .boolean,149,"brk","[Z"),(some .int,153,"locKind","[I"),(some .int,156,"locVal","[I"),(some .int,159,"cOp","[I"),(some .int,162,"cA","[I"),(some .int,165,"cB","[I"),(some .int,168,"cC","[I"),(some .int,171,"mem","[I"),(some .int,174,"reg","[I"),(some .int,177,"blkOwner","[I"),(some .int,180,"blkLast","[I"),(some .int,183,"entKind","[I"),(some .int,186,"entVal","[I"),(some .int,189,"regOwner","[I"),(some .int,192,"opStk","[I"),(some .boolean,195,"cmpSeen","[Z")],431,1,[],tb1,ms1)
def tb2:Jvm.OM.Tabs:=([],[(26,1),(34,4),(38,6),(41,13),(45,14),(52,10),(56,11),(59,9),(62,8),(65,15),(68,16)],[(11,4),(19,1),(30,5),(48,3),(71,2)],[],[(7,-4294967296),(9,4294967295)],[(17,0)],[(23,0)])
def cl_0:List (List Jvm.OM.Ent):=[[(0,.new 0,3,none),(3,.dup,4,none),(4,.iconst 2,5,none),(5,.aload 0,6,none),(6,.iconst 0,7,none),(7,.invokestatic 1,10,none),(10,.iconst 4,11,none),(11,.iushr,12,none),(12,.iconst 7,14,none),(14,.irem,15,none),(15,.iadd,16,none)],[(16,.invokespecial 0,19,none),(19,.astore 1,20,none),(20,.iconst 1,21,none),(21,.istore 2,22,none),(22,.iconst 1,23,none),(23,.aload 0,24,none),(24,.iconst 0,25,none),(25,.invokestatic 1,28,none),(28,.iconst 15,30,none),(30,.iand,31,none),(31,.iconst 14,33,none)],[(33,.irem,34,none),(34,.iadd,35,none),(35,.istore 3,36,none),(36,.iconst 0,37,none),(37,.istore 4,39,none),(39,.iconst 0,40,none),(40,.istore 5,42,none),(42,.iconst 0,43,none),(43,.istore 6,45,none),(45,.iconst 0,46,none),(46,.istore 7,48,none)],[(48,.iconst 0,49,none),(49,.istore 8,51,none),(51,.iconst 0,52,none),(52,.istore 9,54,none),(54,.iconst 1,55,none),(55,.istore 10,57,none),(57,.iconst 0,58,none),(58,.istore 11,60,none),(60,.iload 11,62,some 12),(62,.iload 3,63,none),(63,.if_icmp .ge 461,66,none)],[(66,.aload 0,67,none),(67,.iload 2,68,none),(68,.iinc 2 1,71,none),(71,.invokestatic 1,74,none),(74,.istore 12,76,none),(76,.iload 4,78,none),(78,.ifCond .le 106,81,none)],[(81,.iload 12,83,none),(83,.iconst 3,84,none),(84,.iand,85,none),(85,.ifCond .ne 106,88,none),(88,.iload 10,90,none),(90,.aload 1,91,none),(91,.iconst 15,93,none),(93,.iconst 0,94,none),(94,.invokevirtual 1,97,none)],[(97,.iand,98,none),(98,.istore 10,100,none),(100,.iinc 4 (-1),103,none),(103,.goto 455,106,none),(106,.aload 0,107,some 13),(107,.iload 2,108,none),(108,.iinc 2 1,111,none),(111,.invokestatic 1,114,none)],[(114,.istore 13,116,none),(116,.iload 13,118,none),(118,.iconst 7,120,none),(120,.iand,121,none),(121,.istore 14,123,none),(123,.iload 13,125,none),(125,.iconst 3,126,none),(126,.iushr,127,none),(127,.iconst 9,129,none)],[(129,.irem,130,none),(130,.iconst 4,131,none),(131,.isub,132,none),(132,.istore 15,134,none),(134,.iload 4,136,none),(136,.iconst 3,137,none),(137,.if_icmp .ge 246,140,none),(140,.iload 12,142,none),(142,.iconst 3,143,none),(143,.iand,144,none)],[(144,.iconst 1,145,none),(145,.if_icmp .ne 246,148,none),(148,.iload 10,150,none),(150,.aload 1,151,none),(151,.iload 12,153,none),(153,.iconst 4,154,none),(154,.iand,155,none),(155,.ifCond .ne 163,158,none),(158,.iconst 16,160,none)],[(160,.goto 165,163,none),(163,.iconst 17,165,none),(165,.iconst 0,166,some 16),(166,.invokevirtual 1,169,none),(169,.iand,170,none),(170,.istore 10,172,none),(172,.iload 10,174,none),(174,.aload 1,175,none),(175,.iconst 2,176,none)],[(176,.iload 14,178,none),(178,.invokevirtual 1,181,none),(181,.iand,182,none),(182,.istore 10,184,none),(184,.iload 10,186,none),(186,.aload 1,187,none),(187,.iload 13,189,none),(189,.iconst 7,191,none),(191,.iushr,192,none)],[(192,.iconst 1,193,none),(193,.iand,194,none),(194,.ifCond .ne 202,197,none),(197,.iconst 10,199,none),(199,.goto 204,202,none),(202,.iconst 11,204,none),(204,.iconst 0,205,some 16),(205,.invokevirtual 1,208,none)],[(208,.iand,209,none),(209,.istore 10,211,none),(211,.iload 10,213,none),(213,.aload 1,214,none),(214,.iconst 1,215,none),(215,.iload 15,217,none),(217,.iconst 4,218,none),(218,.iadd,219,none),(219,.invokevirtual 1,222,none),(222,.iand,223,none),(223,.istore 10,225,none)],[(225,.iload 10,227,none),(227,.aload 1,228,none),(228,.iconst 14,230,none),(230,.iconst 0,231,none),(231,.invokevirtual 1,234,none),(234,.iand,235,none),(235,.istore 10,237,none),(237,.iinc 4 1,240,none)],[(240,.iinc 5 1,243,none),(243,.goto 455,246,none),(246,.iload 12,248,some 16),(248,.iconst 3,249,none),(249,.iushr,250,none),(250,.iconst 7,252,none),(252,.iand,253,none),(253,.istore 16,255,none),(255,.iload 6,257,none)],[(257,.iconst 1,258,none),(258,.iload 5,260,none),(260,.ishl,261,none),(261,.ior,262,none),(262,.istore 6,264,none),(264,.iload 16,266,none),(266,.iconst 1,267,none),(267,.iand,268,none),(268,.ifCond .eq 280,271,none),(271,.iload 7,273,none)],[(273,.iconst 1,274,none),(274,.iload 5,276,none),(276,.ishl,277,none),(277,.ior,278,none),(278,.istore 7,280,none),(280,.iload 16,282,some 17),(282,.iconst 2,283,none),(283,.iand,284,none),(284,.ifCond .eq 296,287,none),(287,.iload 8,289,none)],[(289,.iconst 1,290,none),(290,.iload 5,292,none),(292,.ishl,293,none),(293,.ior,294,none),(294,.istore 8,296,none),(296,.iload 16,298,some 17),(298,.iconst 4,299,none),(299,.iand,300,none),(300,.ifCond .eq 312,303,none),(303,.iload 9,305,none)],[(305,.iconst 1,306,none),(306,.iload 5,308,none),(308,.ishl,309,none),(309,.ior,310,none),(310,.istore 9,312,none),(312,.iload 10,314,some 17),(314,.aload 1,315,none),(315,.iconst 2,316,none),(316,.iload 16,318,none),(318,.invokevirtual 1,321,none)],[(321,.iand,322,none),(322,.istore 10,324,none),(324,.iload 10,326,none),(326,.aload 1,327,none),(327,.iconst 3,328,none),(328,.iconst 0,329,none),(329,.invokevirtual 1,332,none),(332,.iand,333,none),(333,.istore 10,335,none),(335,.iload 13,337,none)],[(337,.iconst 8,339,none),(339,.iushr,340,none),(340,.iconst 3,341,none),(341,.iand,342,none),(342,.istore 17,344,none),(344,.iload 17,346,none),(346,.ifCond .ne 364,349,none),(349,.iload 10,351,none),(351,.aload 1,352,none)],[(352,.iconst 1,353,none),(353,.iload 15,355,none),(355,.invokevirtual 1,358,none),(358,.iand,359,none),(359,.istore 10,361,none),(361,.goto 441,364,none),(364,.iload 10,366,none),(366,.aload 1,367,none),(367,.iconst 2,368,none)],[(368,.iload 14,370,none),(370,.invokevirtual 1,373,none),(373,.iand,374,none),(374,.istore 10,376,none),(376,.iload 17,378,none),(378,.iconst 2,379,none),(379,.if_icmp .lt 441,382,none),(382,.iload 10,384,none)],[(384,.aload 1,385,none),(385,.iload 13,387,none),(387,.iconst 10,389,none),(389,.iushr,390,none),(390,.iconst 5,391,none),(391,.irem,392,none),(392,.invokestatic 5,395,none),(395,.iconst 0,396,none),(396,.invokevirtual 1,399,none),(399,.iand,400,none)],[(400,.istore 10,402,none),(402,.iload 17,404,none),(404,.iconst 2,405,none),(405,.if_icmp .ne 423,408,none),(408,.iload 10,410,none),(410,.aload 1,411,none),(411,.iconst 1,412,none),(412,.iload 15,414,none),(414,.invokevirtual 1,417,none)],[(417,.iand,418,none),(418,.istore 10,420,none),(420,.goto 441,423,none),(423,.iload 10,425,none),(425,.aload 1,426,none),(426,.iconst 2,427,none),(427,.iload 13,429,none),(429,.iconst 13,431,none),(431,.iushr,432,none)],[(432,.iconst 7,434,none),(434,.iand,435,none),(435,.invokevirtual 1,438,none),(438,.iand,439,none),(439,.istore 10,441,none),(441,.iload 10,443,some 18),(443,.aload 1,444,none),(444,.iconst 4,445,none),(445,.iconst 0,446,none),(446,.invokevirtual 1,449,none)],[(449,.iand,450,none),(450,.istore 10,452,none),(452,.iinc 5 1,455,none),(455,.iinc 11 1,458,some 13),(458,.goto 60,461,none),(461,.iload 4,463,some 12),(463,.ifCond .le 484,466,none)],[(466,.iload 10,468,none),(468,.aload 1,469,none),(469,.iconst 15,471,none),(471,.iconst 0,472,none),(472,.invokevirtual 1,475,none),(475,.iand,476,none),(476,.istore 10,478,none),(478,.iinc 4 (-1),481,none)],[(481,.goto 461,484,none),(484,.iload 10,486,none),(486,.ifCond .ne 491,489,none),(489,.iconst 0,490,none),(490,.ireturn,491,none),(491,.aload 1,492,none),(492,.invokevirtual 4,495,none),(495,.iconst 1,496,none)],[(496,.if_icmp .ne 508,499,none),(499,.aload 1,500,none),(500,.invokevirtual 6,503,none),(503,.iload 5,505,none),(505,.if_icmp .eq 510,508,none),(508,.iconst 0,509,some 12),(509,.ireturn,510,none),(510,.lconst 0,511,none),(511,.lstore 11,513,none)],[(513,.lconst 0,514,none),(514,.lstore 13,516,none),(516,.lconst 0,517,none),(517,.lstore 15,519,none),(519,.lconst 0,520,none),(520,.lstore 17,522,none),(522,.iconst 0,523,none),(523,.istore 19,525,none),(525,.iconst 0,526,none),(526,.istore 20,528,none)],[(528,.iload 20,530,some 21),(530,.iconst 100,532,none),(532,.if_icmp .gt 835,535,none),(535,.iconst 0,536,none),(536,.istore 21,538,none),(538,.iload 21,540,some 22),(540,.iconst 8,542,none),(542,.if_icmp .ge 605,545,none)],[(545,.aload 1,546,none),(546,.iload 21,548,none),(548,.invokevirtual 13,551,none),(551,.ifCond .eq 588,554,none),(554,.iload 19,556,none),(556,.iload 21,558,none),(558,.ishr,559,none),(559,.iconst 1,560,none)],[(560,.iand,561,none),(561,.ifCond .eq 586,564,none),(564,.aload 1,565,none),(565,.iload 21,567,none),(567,.invokevirtual 14,570,none),(570,.lload 11,572,none),(572,.lload 13,574,none),(574,.lload 15,576,none)],[(576,.lload 17,578,none),(578,.iload 21,580,none),(580,.invokestatic 3,583,none),(583,.if_icmp .eq 599,586,none),(586,.iconst 0,587,some 22),(587,.ireturn,588,none),(588,.aload 1,589,none),(589,.iload 21,591,none),(591,.invokevirtual 14,594,none)],[(594,.ifCond .eq 599,597,none),(597,.iconst 0,598,none),(598,.ireturn,599,none),(599,.iinc 21 1,602,some 22),(602,.goto 538,605,none),(605,.iload 20,607,none),(607,.iconst 100,609,none)],[(609,.if_icmp .ne 615,612,none),(612,.goto 835,615,none),(615,.aload 0,616,none),(616,.iload 2,617,none),(617,.iload 20,619,none),(619,.iadd,620,none),(620,.invokestatic 1,623,none),(623,.iconst 15,625,none)],[(625,.iand,626,none),(626,.istore 21,628,none),(628,.iload 21,630,none),(630,.iconst 15,632,none),(632,.if_icmp .ne 650,635,none),(635,.aload 1,636,none),(636,.invokevirtual 10,639,none),(639,.ifCond .ne 644,642,none)],[(642,.iconst 0,643,none),(643,.ireturn,644,none),(644,.iconst 0,645,none),(645,.istore 19,647,none),(647,.goto 829,650,none),(650,.aload 1,651,none),(651,.invokevirtual 11,654,none),(654,.istore 22,656,none)],[(656,.iload 21,658,none),(658,.iconst 14,660,none),(660,.if_icmp .ne 672,663,none),(663,.aload 1,664,none),(664,.iconst 1,665,none),(665,.invokevirtual 9,668,none),(668,.pop,669,none),(669,.goto 677,672,none)],[(672,.aload 1,673,none),(673,.invokevirtual 8,676,none),(676,.pop,677,none),(677,.iload 22,679,some 23),(679,.ifCond .lt 829,682,none),(682,.iload 6,684,none),(684,.iload 22,686,none),(686,.ishr,687,none),(687,.iconst 1,688,none)],[(688,.iand,689,none),(689,.ifCond .eq 829,692,none),(692,.iload 7,694,none),(694,.iload 22,696,none),(696,.ishr,697,none),(697,.iconst 1,698,none),(698,.iand,699,none),(699,.iload 8,701,none),(701,.iload 22,703,none),(703,.ishr,704,none)],[(704,.iconst 1,705,none),(705,.iand,706,none),(706,.iconst 1,707,none),(707,.ishl,708,none),(708,.ior,709,none),(709,.iload 9,711,none),(711,.iload 22,713,none),(713,.ishr,714,none),(714,.iconst 1,715,none),(715,.iand,716,none),(716,.iconst 2,717,none),(717,.ishl,718,none),(718,.ior,719,none),(719,.istore 23,721,none)],[(721,.aload 1,722,none),(722,.invokevirtual 15,725,none),(725,.iload 23,727,none),(727,.if_icmp .eq 732,730,none),(730,.iconst 0,731,none),(731,.ireturn,732,none),(732,.aload 1,733,none),(733,.invokevirtual 16,736,none)],[(736,.istore 24,738,none),(738,.iload 19,740,none),(740,.iconst 1,741,none),(741,.iload 23,743,none),(743,.ishl,744,none),(744,.ior,745,none),(745,.istore 19,747,none),(747,.iload 23,749,none),(749,.iconst 1,750,none),(750,.iand,751,none),(751,.istore 25,753,none)],[(753,.iload 23,755,none),(755,.iconst 1,756,none),(756,.ishr,757,none),(757,.ifCond .ne 774,760,none),(760,.lload 11,762,none),(762,.iload 25,764,none),(764,.iload 24,766,none),(766,.invokestatic 2,769,none)],[(769,.lstore 11,771,none),(771,.goto 829,774,none),(774,.iload 23,776,none),(776,.iconst 1,777,none),(777,.ishr,778,none),(778,.iconst 1,779,none),(779,.if_icmp .ne 796,782,none),(782,.lload 13,784,none)],[(784,.iload 25,786,none),(786,.iload 24,788,none),(788,.invokestatic 2,791,none),(791,.lstore 13,793,none),(793,.goto 829,796,none),(796,.iload 23,798,none),(798,.iconst 1,799,none),(799,.ishr,800,none)],[(800,.iconst 2,801,none),(801,.if_icmp .ne 818,804,none),(804,.lload 15,806,none),(806,.iload 25,808,none),(808,.iload 24,810,none),(810,.invokestatic 2,813,none),(813,.lstore 15,815,none),(815,.goto 829,818,none)],[(818,.lload 17,820,none),(820,.iload 25,822,none),(822,.iload 24,824,none),(824,.invokestatic 2,827,none),(827,.lstore 17,829,none),(829,.iinc 20 1,832,some 22)],[(832,.goto 528,835,none),(835,.iconst 1,836,some 21),(836,.ireturn,837,none)]]
def cl_1:List (List Jvm.OM.Ent):=[[(0,.iload 1,1,none),(1,.aload 0,2,none),(2,.arraylength,3,none),(3,.if_icmp .ge 12,6,none),(6,.aload 0,7,none),(7,.iload 1,8,none),(8,.iaload,9,none),(9,.goto 13,12,none),(12,.iconst 0,13,none),(13,.ireturn,14,some 2)]]
def cl_2:List (List Jvm.OM.Ent):=[[(0,.iload 2,1,none),(1,.ifCond .ne 17,4,none),(4,.lload 0,5,none),(5,.ldc2_w 18446744069414584320,8,none),(8,.land,9,none),(9,.iload 3,10,none),(10,.i2l,11,none),(11,.ldc2_w 4294967295,14,none),(14,.land,15,none),(15,.lor,16,none)],[(16,.lreturn,17,none),(17,.lload 0,18,none),(18,.ldc2_w 4294967295,21,none),(21,.land,22,none),(22,.iload 3,23,none),(23,.i2l,24,none),(24,.iconst 32,26,none),(26,.lshl,27,none),(27,.lor,28,none),(28,.lreturn,29,none)]]
def cl_3:List (List Jvm.OM.Ent):=[[(0,.iload 8,2,none),(2,.iconst 2,3,none),(3,.if_icmp .ge 10,6,none),(6,.lload 0,7,none),(7,.goto 34,10,none),(10,.iload 8,12,none),(12,.iconst 4,13,none),(13,.if_icmp .ge 20,16,none)],[(16,.lload 2,17,none),(17,.goto 34,20,none),(20,.iload 8,22,none),(22,.iconst 6,24,none),(24,.if_icmp .ge 32,27,none),(27,.lload 4,29,none),(29,.goto 34,32,none)],[(32,.lload 6,34,none),(34,.lstore 9,36,some 9),(36,.lload 9,38,none),(38,.iload 8,40,none),(40,.iconst 1,41,none),(41,.iand,42,none),(42,.invokestatic 4,45,none),(45,.ireturn,46,none)]]
def cl_4:List (List Jvm.OM.Ent):=[[(0,.iload 2,1,none),(1,.ifCond .ne 9,4,none),(4,.lload 0,5,none),(5,.l2i,6,none),(6,.goto 14,9,none),(9,.lload 0,10,none),(10,.iconst 32,12,none),(12,.lushr,13,none),(13,.l2i,14,none),(14,.ireturn,15,some 3)]]
def cl_5:List (List Jvm.OM.Ent):=[[(0,.iload 0,1,none),(1,.ifCond .ne 6,4,none),(4,.iconst 5,5,none),(5,.ireturn,6,none),(6,.iload 0,7,none),(7,.iconst 1,8,none),(8,.if_icmp .ne 14,11,none),(11,.iconst 6,13,none),(13,.ireturn,14,none),(14,.iload 0,15,none),(15,.iconst 2,16,none)],[(16,.if_icmp .ne 22,19,none),(19,.iconst 7,21,none),(21,.ireturn,22,none),(22,.iload 0,23,none),(23,.iconst 3,24,none),(24,.if_icmp .ne 30,27,none),(27,.iconst 8,29,none),(29,.ireturn,30,none),(30,.iconst 9,32,none)],[(32,.ireturn,33,none)]]
def ml_0:Jvm.OM.Mth:=(⟨"LocListDebugOwnLaw","law","([I)Z"⟩,code,26,11,168,(some .boolean),1,3,false,cl_0.flatten)
def ml_1:Jvm.OM.Mth:=(⟨"LocListDebugOwnLaw","cell","([II)I"⟩,method_2_code,2,0,0,(some .int),2,0,false,cl_1.flatten)
def ml_2:Jvm.OM.Mth:=(⟨"LocListDebugOwnLaw","putHalf","(JII)J"⟩,method_4_code,4,0,0,(some .long),3,0,false,cl_2.flatten)
def ml_3:Jvm.OM.Mth:=(⟨"LocListDebugOwnLaw","get","(JJJJI)I"⟩,method_5_code,11,1,14,(some .int),5,0,false,cl_3.flatten)
def ml_4:Jvm.OM.Mth:=(⟨"LocListDebugOwnLaw","getHalf","(JI)I"⟩,method_3_code,3,0,0,(some .int),2,0,false,cl_4.flatten)
def ml_5:Jvm.OM.Mth:=(⟨"LocListDebugOwnLaw","opOf","(I)I"⟩,method_6_code,1,0,0,(some .int),1,0,false,cl_5.flatten)
def ms2:List Jvm.OM.Mth:=[ml_0,ml_1,ml_2,ml_3,ml_4,ml_5]
def iv1:List (Nat×Int):=[]
abbrev nmax1:Nat:=1
theorem own_d1:data1 cls1=true:=by decide +kernel
theorem own_g1:goodB tb1 ms1=true:=by decide +kernel
theorem own_r1:roomB ms1 ms1 callVk=true:=by decide +kernel
theorem own_d2:data2 "LocListDebug" "LocListDebugOwnLaw" ms1 ms2 tb2=true:=by decide +kernel
theorem own_g2:goodB tb2 ms2=true:=by decide +kernel
theorem own_rv:roomB ms2 ms1 callVk=true:=by decide +kernel
theorem own_rc:roomB ms2 ms1 callCk=true:=by decide +kernel
theorem own_rs:roomB ms2 ms2 callSk=true:=by decide +kernel
theorem own_hcut{tw:List Jvm.Cond}:∀(n:Nat) {ws:List Jvm.Cond} {is:List Nat},hasB tw (ws.take n) (is.take n)=true→hasB tw (ws.drop n) (is.drop n)=true→hasB tw ws is=true
 |0,ws,is,_,h=>h
 |n+1,[],[],_,h=>rfl
 |n+1,w::ws,i::is,h,h'=>by
  simp only[List.take_succ_cons,hasB,Bool.and_eq_true] at h
  simp only[List.drop_succ_cons] at h'
  simp only[hasB,Bool.and_eq_true]
  exact⟨h.1,own_hcut n h.2 h'⟩
 |n+1,[],i::is,h,_=>by
  simp[List.take_succ_cons,hasB] at h
 |n+1,w::ws,[],h,_=>by
  simp[List.take_succ_cons,hasB] at h
def own_is1:List Nat:=[1,2,10,11,12,8,9,140,77,146,79,150,81,148,83,152,85,156,87,154,89,162,91,164,93,166,95,168,97,190,99,192,101,188,103,198,105,200,108,202,110,112,114,116,118,120,122,124,126,128,130,132,134,136,138,14,16,18,20,22,24,26,28,30,32,34,36,38,40,42,44,46,48,50,52,54,56,58,60,62,64,66,68,70,72,74,76,78,80,82,84,86,88,90,92,94,96,98,100,102,104,107,109,111,113,115,117,119,121,123,125,127,129,131,133,135,137,139,145,147,149,151,153,161,163,165,167,155,189,187,191,197,199,201,13,15,17,19,21,23,25,27,29,31,33,35,37,39,41,43,45,47,49,51,53,55,57,59,61,63,65,67,69,71,73,76,78,80,82,84,86,88,90,92,94,96,98,100,102,104,107,109,111,113,115,117,119,121,123,125,127,129,131,133,135,137,75,75,75,75,75,75,75,75,75,75,75,75,75,75,75,106,75,75,75,75,75,75,75,75,75,75,75,75,75,75,106,141,179,247,271,157,283,317,420,297,306,348,183,203,193,207,215,223,211,219,366,227,358,231,235,239,394,398,362,370,374,386,243,406,378,427,382,431,390,251,255,259,267,263,275,279,321,325,402,329,171,173,170,172,176,178,175,177,289,291,288,290,314,316,313,315,412,414,411,413,417,419,416,418,309,311,308,310,294,296,293,295,303,305,302,304,335,337,334,336,340,342,339,341,142,144,143,158,160,159,284,286,285,421,423,422,298,300,299,180,182,181,184,186,185,204,206,205,208,210,209,212,214,213,399,401,400,232,234,233,194,196,195,216,218,217,224,226,225,359,361,360,228,230,229,363,365,364,367,369,368,236,238,237,220,222,221,371,373,372,375,377,376,379,381,380,383,385,384,432,434,433,428,430,429,387,389,388,391,393,392,240,242,241,395,397,396,244,246,245,248,250,249,252,254,253,256,258,257,264,266,265,260,262,261,268,270,269,272,274,273,276,278,277,280,282,281,349,351,350,318,320,319,322,324,323,326,328,327,403,405,404,330,332,331,407,409,408]
theorem own_h1_0:hasB tables_1 ((needs1 cls1).take 60) (own_is1.take 60)=true:=by decide +kernel
theorem own_h1_1:hasB tables_1 (((needs1 cls1).drop 60).take 60) ((own_is1.drop 60).take 60)=true:=by decide +kernel
theorem own_h1_2:hasB tables_1 ((((needs1 cls1).drop 60).drop 60).take 60) (((own_is1.drop 60).drop 60).take 60)=true:=by decide +kernel
theorem own_h1_3:hasB tables_1 (((((needs1 cls1).drop 60).drop 60).drop 60).take 60) ((((own_is1.drop 60).drop 60).drop 60).take 60)=true:=by decide +kernel
theorem own_h1_4:hasB tables_1 ((((((needs1 cls1).drop 60).drop 60).drop 60).drop 60).take 60) (((((own_is1.drop 60).drop 60).drop 60).drop 60).take 60)=true:=by decide +kernel
theorem own_h1_5:hasB tables_1 (((((((needs1 cls1).drop 60).drop 60).drop 60).drop 60).drop 60).take 60) ((((((own_is1.drop 60).drop 60).drop 60).drop 60).drop 60).take 60)=true:=by decide +kernel
theorem own_h1_6:hasB tables_1 ((((((((needs1 cls1).drop 60).drop 60).drop 60).drop 60).drop 60).drop 60).take 60) (((((((own_is1.drop 60).drop 60).drop 60).drop 60).drop 60).drop 60).take 60)=true:=by decide +kernel
theorem own_h1_7:hasB tables_1 ((((((((needs1 cls1).drop 60).drop 60).drop 60).drop 60).drop 60).drop 60).drop 60) (((((((own_is1.drop 60).drop 60).drop 60).drop 60).drop 60).drop 60).drop 60)=true:=by decide +kernel
theorem own_h1:hasB tables_1 (needs1 cls1) own_is1=true:=(own_hcut 60 own_h1_0 (own_hcut 60 own_h1_1 (own_hcut 60 own_h1_2 (own_hcut 60 own_h1_3 (own_hcut 60 own_h1_4 (own_hcut 60 own_h1_5 (own_hcut 60 own_h1_6 own_h1_7)))))))
theorem own_h2:hasB tables_1 (needs2 "LocListDebug" "LocListDebugOwnLaw" ms1 ms2 tb2) [0,7,169,174,287,292,301,415,307,410,312,333,338,355,356,5,357,3,4,5,6,424,425,5,426,352,353,5,354,343,344,5,345,346,347]=true:=by decide +kernel
theorem k_m2:Int32.ofInt (-2)=(-2):=by decide
theorem k_m1:Int32.ofInt (-1)=(-1):=by decide
theorem k_0:Int32.ofInt 0=0:=by decide
theorem k_1:Int32.ofInt 1=1:=by decide
theorem k_2:Int32.ofInt 2=2:=by decide
theorem k_3:Int32.ofInt 3=3:=by decide
theorem k_4:Int32.ofInt 4=4:=by decide
theorem k_5:Int32.ofInt 5=5:=by decide
theorem k_6:Int32.ofInt 6=6:=by decide
theorem k_7:Int32.ofInt 7=7:=by decide
theorem k_8:Int32.ofInt 8=8:=by decide
theorem k_9:Int32.ofInt 9=9:=by decide
theorem k_10:Int32.ofInt 10=10:=by decide
theorem k_11:Int32.ofInt 11=11:=by decide
theorem k_12:Int32.ofInt 12=12:=by decide
theorem k_13:Int32.ofInt 13=13:=by decide
theorem k_14:Int32.ofInt 14=14:=by decide
theorem k_15:Int32.ofInt 15=15:=by decide
theorem k_16:Int32.ofInt 16=16:=by decide
theorem k_17:Int32.ofInt 17=17:=by decide
theorem k_20:Int32.ofInt 20=20:=by decide
theorem k_21:Int32.ofInt 21=21:=by decide
theorem k_32:Int32.ofInt 32=32:=by decide
theorem k_40:Int32.ofInt 40=40:=by decide
theorem k_96:Int32.ofInt 96=96:=by decide
theorem k_100:Int32.ofInt 100=100:=by decide
theorem k_128:Int32.ofInt 128=128:=by decide
theorem k_256:Int32.ofInt 256=256:=by decide
theorem k_320:Int32.ofInt 320=320:=by decide
theorem k_1024:Int32.ofInt 1024=1024:=by decide
theorem kl_m4294967296:Int64.ofNat 18446744069414584320=(-4294967296):=by decide
theorem kl_4294967295:Int64.ofNat 4294967295=4294967295:=by decide
abbrev Fx(f1:FT1):=Fix1 arr1 ms1 f1
abbrev Fy(xs:List Int32)(f1:FT1)(f2:FT2):=Fix2 ms1 ms2 iv1 431 nmax1 (some xs) f1 f2
theorem e1_0_431{f1}(h:Fx f1)(x1:Int32)(S):f1 (0,431,[.ref 0,.int x1],[],S)=if x1<2 then f1 (0,440,[.ref 0,.int x1,.int 2],[],S) else f1 (0,440,[.ref 0,.int x1,.int x1],[],S):=Jb h rfl rfl<|Je h rfl [.ref 0,.int x1,.int x1]<|Jb h rfl rfl<|Jc h rfl k_2<|Jm h rfl (Jc h rfl k_2<|Je h rfl [.ref 0,.int x1,.int 2] rfl) rfl
theorem e1_0_440{f1}(h:Fx f1)(x1 x2:Int32)(S):f1 (0,440,[.ref 0,.int x1,.int x2],[],S)=if 8<x2 then (f1 (17,0,[.ref 0],[],(upd S 0 0 8))).bind fun q=>f1 (0,458,[.ref 0,.int x1,.int 8],q.1.toList++[],q.2) else (f1 (17,0,[.ref 0],[],(upd S 0 0 x2))).bind fun q=>f1 (0,458,[.ref 0,.int x1,.int x2],q.1.toList++[],q.2):=Jb h rfl rfl<|Jc h rfl k_8<|JP h rfl (Jc h rfl k_8<|Je h rfl [.ref 0,.int x1,.int 8]<|Jd h rfl rfl<|Jb h rfl rfl<|Jw h rfl<|Jd h rfl rfl<|Jf h rfl rfl) (Jd h rfl rfl<|Jb h rfl rfl<|Jw h rfl<|Jd h rfl rfl<|Jf h rfl rfl)
theorem e1_0_458{f1}(h:Fx f1)(x1 x2:Int32)(S):f1 (0,458,[.ref 0,.int x1,.int x2],[],S)=some (none,S):=Jk h rfl
theorem e1_17_0{f1}(h:Fx f1)(S):f1 (17,0,[.ref 0],[],S)=(f1 (18,0,[.ref 0],[],(upd (upd (upd (upd (upd (upd S 0 1 0) 0 3 0) 0 2 (-1)) 0 4 0) 0 6 0) 0 5 (-1)))).bind fun q=>f1 (17,34,[.ref 0],q.1.toList++[],q.2):=Jd h rfl rfl<|Jc h rfl k_0<|Jax h rfl<|Jd h rfl rfl<|Jc h rfl k_0<|Jw h rfl<|Jd h rfl rfl<|Jc h rfl k_m1<|Jw h rfl<|Jd h rfl rfl<|Jc h rfl k_0<|Jw h rfl<|Jd h rfl rfl<|Jc h rfl k_0<|Jw h rfl<|Jd h rfl rfl<|Jc h rfl k_m1<|Jw h rfl<|Jd h rfl rfl<|Jf h rfl rfl
theorem e1_17_34{f1}(h:Fx f1)(S):f1 (17,34,[.ref 0],[],S)=some (none,(upd (upd (upd (upd S 0 7 (-2)) 0 8 0) 0 9 (-1)) 0 10 0)):=Jd h rfl rfl<|Jc h rfl k_m2<|Jw h rfl<|Jd h rfl rfl<|Jc h rfl k_0<|Jw h rfl<|Jd h rfl rfl<|Jc h rfl k_m1<|Jw h rfl<|Jd h rfl rfl<|Jc h rfl k_0<|Jw h rfl<|Jk h rfl
theorem e1_18_0{f1}(h:Fx f1)(S):f1 (18,0,[.ref 0],[],S)=f1 (18,2,[.ref 0,.int 0],[],S):=Jc h rfl k_0<|Je h rfl [.ref 0,.int 0] rfl
theorem e1_18_2{f1}(h:Fx f1)(x1:Int32)(S):f1 (18,2,[.ref 0,.int x1],[],S)=if x1<32 then if inb x1 32=true then f1 (18,2,[.ref 0,.int (x1+1)],[],(upd S 16 (x1).toNatClampNeg 0)) else none else some (none,S):=Jb h rfl rfl<|Jc h rfl k_32<|Jm h rfl (Jd h rfl rfl<|Jg h rfl<|Jb h rfl rfl<|Jc h rfl k_0<|Jab h rfl rfl 0 fun i0=>Jn h rfl k_1 rfl [.ref 0,.int (x1+1)]<|Jh h rfl rfl) (Jk h rfl)
theorem e1_1_0{f1}(h:Fx f1)(x1 x2:Int32)(S):f1 (1,0,[.ref 0,.int x1,.int x2],[],S)=if (S 0 1)=0 then if x1<1 then some (some (.int 0),S) else if 17<x1 then some (some (.int 0),S) else if x1=2 then if x2<0 then some (some (.int 0),S) else if x2<8 then f1 (1,39,[.ref 0,.int x1,.int x2],[],S) else some (some (.int 0),S) else f1 (1,39,[.ref 0,.int x1,.int x2],[],S) else some (some (.int 0),S):=Jd h rfl rfl<|Jj h rfl (S 0 1)<|Jy h rfl (Jb h rfl rfl<|Jc h rfl k_1<|JK h rfl (Jc h rfl k_0<|Jl h rfl) (Jb h rfl rfl<|Jc h rfl k_17<|JP h rfl (Jc h rfl k_0<|Jl h rfl) (Jb h rfl rfl<|Jc h rfl k_2<|Jp h rfl (Jb h rfl rfl<|JB h rfl (Jc h rfl k_0<|Jl h rfl) (Jb h rfl rfl<|Jc h rfl k_8<|JK h rfl rfl (Jc h rfl k_0<|Jl h rfl))) rfl))) (Jc h rfl k_0<|Jl h rfl)
theorem e1_1_39{f1}(h:Fx f1)(x1 x2:Int32)(S):f1 (1,39,[.ref 0,.int x1,.int x2],[],S)=if (S 0 3)<0 then some (some (.int 0),S) else if (S 0 3)<96 then if inb (S 0 3) 96=true then if x1=1 then f1 (1,77,[.ref 0,.int x1,.int x2],[],(upd S 1 ((S 0 3)).toNatClampNeg x1)) else if x1=2 then f1 (1,77,[.ref 0,.int x1,.int x2],[],(upd S 1 ((S 0 3)).toNatClampNeg x1)) else some (some (.int 1),(upd (upd (upd S 1 ((S 0 3)).toNatClampNeg x1) 2 ((S 0 3)).toNatClampNeg 0) 0 3 ((S 0 3)+1))) else none else some (some (.int 0),S):=Jd h rfl rfl<|Jj h rfl (S 0 3)<|JB h rfl (Jc h rfl k_0<|Jl h rfl) (Jd h rfl rfl<|Jj h rfl (S 0 3)<|Jc h rfl k_96<|JK h rfl (Jd h rfl rfl<|Jg h rfl<|Jd h rfl rfl<|Jj h rfl (S 0 3)<|Jb h rfl rfl<|Jv h rfl rfl x1 fun i0=>Jb h rfl rfl<|Jc h rfl k_1<|JA h rfl rfl (Jb h rfl rfl<|Jc h rfl k_2<|Jp h rfl rfl (Jd h rfl rfl<|Jg h rfl<|Jd h rfl rfl<|Jj h rfl (S 0 3)<|Jc h rfl k_0<|Jx h rfl rfl 0 i0<|Jd h rfl rfl<|JO h rfl<|Jj h rfl (S 0 3)<|Jc h rfl k_1<|Jt h rfl<|Jw h rfl<|Jc h rfl k_1<|JC h rfl))) (Jc h rfl k_0<|Jl h rfl))
theorem e1_1_77{f1}(h:Fx f1)(x1 x2:Int32)(S):f1 (1,77,[.ref 0,.int x1,.int x2],[],S)=if inb (S 0 3) 96=true then some (some (.int 1),(upd (upd S 2 ((S 0 3)).toNatClampNeg x2) 0 3 ((S 0 3)+1))) else none:=Jd h rfl rfl<|Jg h rfl<|Jd h rfl rfl<|Jj h rfl (S 0 3)<|Jb h rfl rfl<|Jv h rfl rfl x2 fun i0=>Jh h rfl<|Jd h rfl rfl<|JO h rfl<|Jj h rfl (S 0 3)<|Jc h rfl k_1<|Jt h rfl<|Jw h rfl<|Jc h rfl k_1<|JC h rfl
theorem e1_4_0{f1}(h:Fx f1)(S):f1 (4,0,[.ref 0],[],S)=if (S 0 1)=0 then (f1 (22,0,[.ref 0],[],S)).bind fun q=>f1 (4,13,[.ref 0],q.1.toList++[],q.2) else some (some (.int 3),S):=Jd h rfl rfl<|Jj h rfl (S 0 1)<|Jy h rfl (Jd h rfl rfl<|Jf h rfl rfl) (Jc h rfl k_3<|Ji h rfl)
theorem e1_4_13{f1}(h:Fx f1)(y0:Int32)(S):f1 (4,13,[.ref 0],[.int y0],S)=if y0<0 then (f1 (53,0,[.ref 0],[],S)).bind fun q=>f1 (4,39,[.ref 0,.int y0],q.1.toList++[],q.2) else some (some (.int 2),(upd (upd (upd S 0 2 y0) 0 4 0) 0 6 0)):=Je h rfl [.ref 0,.int y0]<|Jb h rfl rfl<|JB h rfl (Jd h rfl rfl<|Jf h rfl rfl) (Jd h rfl rfl<|Jb h rfl rfl<|Jw h rfl<|Jd h rfl rfl<|Jc h rfl k_0<|Jw h rfl<|Jd h rfl rfl<|Jc h rfl k_0<|Jw h rfl<|Jc h rfl k_2<|Ji h rfl)
theorem e1_4_39{f1}(h:Fx f1)(x1:Int32)(S):f1 (4,39,[.ref 0,.int x1],[],S)=(f1 (59,0,[.ref 0],[],S)).bind fun q=>f1 (4,43,[.ref 0,.int x1],q.1.toList++[],q.2):=Jd h rfl rfl<|Jf h rfl rfl
theorem e1_4_43{f1}(h:Fx f1)(x1:Int32)(S):f1 (4,43,[.ref 0,.int x1],[],S)=(f1 (18,0,[.ref 0],[],S)).bind fun q=>f1 (4,47,[.ref 0,.int x1],q.1.toList++[],q.2):=Jd h rfl rfl<|Jf h rfl rfl
theorem e1_4_47{f1}(h:Fx f1)(x1:Int32)(S):f1 (4,47,[.ref 0,.int x1],[],S)=(f1 (19,0,[.ref 0],[],(upd (upd S 0 2 (-1)) 0 1 1))).bind fun q=>f1 (4,61,[.ref 0,.int x1],q.1.toList++[],q.2):=Jd h rfl rfl<|Jc h rfl k_m1<|Jw h rfl<|Jd h rfl rfl<|Jc h rfl k_1<|Jay h rfl<|Jd h rfl rfl<|Jf h rfl rfl
theorem e1_4_61{f1}(h:Fx f1)(x1:Int32)(S):f1 (4,61,[.ref 0,.int x1],[],S)=some (some (.int 1),S):=Jc h rfl k_1<|Ji h rfl
theorem e1_22_0{f1}(h:Fx f1)(S):f1 (22,0,[.ref 0],[],S)=(f1 (23,0,[.ref 0],[],S)).bind fun q=>f1 (22,4,[.ref 0],q.1.toList++[],q.2):=Jd h rfl rfl<|Jf h rfl rfl
theorem e1_22_4{f1}(h:Fx f1)(S):f1 (22,4,[.ref 0],[],S)=f1 (22,6,[.ref 0,.int 0],[],S):=Jc h rfl k_0<|Je h rfl [.ref 0,.int 0] rfl
theorem e1_22_6{f1}(h:Fx f1)(x1:Int32)(S):f1 (22,6,[.ref 0,.int x1],[],S)=if x1<(S 0 3) then if x1<96 then if inb x1 96=true then (f1 (24,0,[.ref 0,.int (S 1 (x1).toNatClampNeg),.int (S 2 (x1).toNatClampNeg)],[],S)).bind fun q=>f1 (22,36,[.ref 0,.int x1],q.1.toList++[],q.2) else none else f1 (22,47,[.ref 0,.int x1],[],S) else f1 (22,47,[.ref 0,.int x1],[],S):=Jb h rfl rfl<|Jd h rfl rfl<|Jj h rfl (S 0 3)<|Jm h rfl (Jb h rfl rfl<|Jc h rfl k_96<|Jm h rfl (Jd h rfl rfl<|Jd h rfl rfl<|Jg h rfl<|Jb h rfl rfl<|Jo h rfl rfl (S 1 (x1).toNatClampNeg) fun i0=>Jd h rfl rfl<|Jg h rfl<|Jb h rfl rfl<|JF h rfl rfl i0 (S 2 (x1).toNatClampNeg)<|Jf h rfl rfl) rfl) rfl
theorem e1_22_36{f1}(h:Fx f1)(x1 y0:Int32)(S):f1 (22,36,[.ref 0,.int x1],[.int y0],S)=if y0=0 then some (some (.int x1),S) else f1 (22,6,[.ref 0,.int (x1+1)],[],S):=Js h rfl (Jb h rfl rfl<|Ji h rfl) (Jn h rfl k_1 rfl [.ref 0,.int (x1+1)]<|Jh h rfl rfl)
theorem e1_22_47{f1}(h:Fx f1)(x1:Int32)(S):f1 (22,47,[.ref 0,.int x1],[],S)=if (S 0 11)=0 then if (S 0 13)=0 then some (some (.int (-1)),S) else some (some (.int (S 0 3)),S) else some (some (.int (S 0 3)),S):=Jd h rfl rfl<|Jj h rfl (S 0 11)<|Js h rfl (Jd h rfl rfl<|Jj h rfl (S 0 13)<|Jy h rfl (Jc h rfl k_m1<|Ji h rfl) (Jd h rfl rfl<|Jj h rfl (S 0 3)<|Ji h rfl)) (Jd h rfl rfl<|Jj h rfl (S 0 3)<|Ji h rfl)
theorem e1_23_0{f1}(h:Fx f1)(S):f1 (23,0,[.ref 0],[],S)=(f1 (29,0,[.ref 0],[],(upd (upd (upd (upd (upd (upd (upd (upd S 0 4 0) 0 6 0) 0 5 (-1)) 0 13 0) 25 0 (-1)) 26 0 (-1)) 0 11 0) 0 12 (-1)))).bind fun q=>f1 (23,48,[.ref 0],q.1.toList++[],q.2):=Jd h rfl rfl<|Jc h rfl k_0<|Jw h rfl<|Jd h rfl rfl<|Jc h rfl k_0<|Jw h rfl<|Jd h rfl rfl<|Jc h rfl k_m1<|Jw h rfl<|Jd h rfl rfl<|Jc h rfl k_0<|Jw h rfl<|Jd h rfl rfl<|Jg h rfl<|Jc h rfl k_0<|Jc h rfl k_m1<|JaC h rfl rfl (-1) 0<|Jd h rfl rfl<|Jg h rfl<|Jc h rfl k_0<|Jc h rfl k_m1<|JaC h rfl rfl (-1) 0<|Jd h rfl rfl<|Jc h rfl k_0<|Jw h rfl<|Jd h rfl rfl<|Jc h rfl k_m1<|Jw h rfl<|Jd h rfl rfl<|Jf h rfl rfl
theorem e1_23_48{f1}(h:Fx f1)(S):f1 (23,48,[.ref 0],[],S)=some (none,S):=Jk h rfl
theorem e1_29_0{f1}(h:Fx f1)(S):f1 (29,0,[.ref 0],[],S)=f1 (29,24,[.ref 0,.int 0],[],(upd (upd (upd (upd S 0 14 0) 0 15 0) 0 16 0) 31 0 0)):=Jd h rfl rfl<|Jc h rfl k_0<|Jw h rfl<|Jd h rfl rfl<|Jc h rfl k_0<|Jw h rfl<|Jd h rfl rfl<|Jc h rfl k_0<|Jw h rfl<|Jd h rfl rfl<|Jg h rfl<|Jc h rfl k_0<|Jc h rfl k_0<|JaD h rfl rfl 0 0<|Jc h rfl k_0<|Je h rfl [.ref 0,.int 0] rfl
theorem e1_29_24{f1}(h:Fx f1)(x1:Int32)(S):f1 (29,24,[.ref 0,.int x1],[],S)=if x1<8 then if inb x1 8=true then f1 (29,24,[.ref 0,.int (x1+1)],[],(upd S 29 (x1).toNatClampNeg (-1))) else none else some (none,S):=Jb h rfl rfl<|Jc h rfl k_8<|Jm h rfl (Jd h rfl rfl<|Jg h rfl<|Jb h rfl rfl<|Jc h rfl k_m1<|Jv h rfl rfl (-1) fun i0=>Jn h rfl k_1 rfl [.ref 0,.int (x1+1)]<|Jh h rfl rfl) (Jk h rfl)
theorem e1_24_0{f1}(h:Fx f1)(x1 x2:Int32)(S):f1 (24,0,[.ref 0,.int x1,.int x2],[],S)=if (S 0 11)=0 then (f1 (25,0,[.ref 0,.int x1,.int x2],[],S)).bind fun q=>f1 (24,13,[.ref 0,.int x1,.int x2],q.1.toList++[],q.2) else if (S 0 11)=1 then if x1=3 then (f1 (29,0,[.ref 0],[],S)).bind fun q=>f1 (24,33,[.ref 0,.int x1,.int x2],q.1.toList++[],q.2) else some (some (.int 0),S) else if (S 0 11)=2 then (f1 (30,0,[.ref 0,.int x1,.int x2],[],S)).bind fun q=>f1 (24,54,[.ref 0,.int x1,.int x2],q.1.toList++[],q.2) else (f1 (31,0,[.ref 0,.int x1],[],S)).bind fun q=>f1 (24,60,[.ref 0,.int x1,.int x2],q.1.toList++[],q.2):=Jd h rfl rfl<|Jj h rfl (S 0 11)<|Js h rfl (Jd h rfl rfl<|Jb h rfl rfl<|Jb h rfl rfl<|Jf h rfl rfl) (Jd h rfl rfl<|Jj h rfl (S 0 11)<|Jc h rfl k_1<|Jp h rfl (Jb h rfl rfl<|Jc h rfl k_3<|JA h rfl (Jd h rfl rfl<|Jf h rfl rfl) (Jc h rfl k_0<|Jl h rfl)) (Jd h rfl rfl<|Jj h rfl (S 0 11)<|Jc h rfl k_2<|Jp h rfl (Jd h rfl rfl<|Jb h rfl rfl<|Jb h rfl rfl<|Jf h rfl rfl) (Jd h rfl rfl<|Jb h rfl rfl<|Jf h rfl rfl)))
theorem e1_24_13{f1}(h:Fx f1)(x1 x2 y0:Int32)(S):f1 (24,13,[.ref 0,.int x1,.int x2],[.int y0],S)=some (some (.int (y0&&&1)),S):=J6 h rfl
theorem e1_24_33{f1}(h:Fx f1)(x1 x2:Int32)(S):f1 (24,33,[.ref 0,.int x1,.int x2],[],S)=some (some (.int 1),(upd S 0 11 2)):=Jd h rfl rfl<|Jc h rfl k_2<|Jw h rfl<|Jc h rfl k_1<|JC h rfl
theorem e1_24_54{f1}(h:Fx f1)(x1 x2 y0:Int32)(S):f1 (24,54,[.ref 0,.int x1,.int x2],[.int y0],S)=some (some (.int (y0&&&1)),S):=J6 h rfl
theorem e1_24_60{f1}(h:Fx f1)(x1 x2 y0:Int32)(S):f1 (24,60,[.ref 0,.int x1,.int x2],[.int y0],S)=some (some (.int (y0&&&1)),S):=J6 h rfl
theorem e1_25_0{f1}(h:Fx f1)(x1 x2:Int32)(S):f1 (25,0,[.ref 0,.int x1,.int x2],[],S)=if x1=15 then if 0<(S 0 13) then some (some (.int 1),(upd S 0 13 ((S 0 13)-1))) else some (some (.int 0),S) else if x1=2 then (f1 (26,0,[.ref 0,.int x1],[],S)).bind fun q=>f1 (25,51,[.ref 0,.int x1,.int x2],q.1.toList++[],q.2) else if x1=16 then (f1 (26,0,[.ref 0,.int x1],[],S)).bind fun q=>f1 (25,51,[.ref 0,.int x1,.int x2],q.1.toList++[],q.2) else if x1=17 then (f1 (26,0,[.ref 0,.int x1],[],S)).bind fun q=>f1 (25,51,[.ref 0,.int x1,.int x2],q.1.toList++[],q.2) else some (some (.int 0),S):=Jb h rfl rfl<|Jc h rfl k_15<|Jp h rfl (Jd h rfl rfl<|Jj h rfl (S 0 13)<|Jat h rfl (Jd h rfl rfl<|JO h rfl<|Jj h rfl (S 0 13)<|Jc h rfl k_1<|JG h rfl<|Jw h rfl<|Jc h rfl k_1<|JC h rfl) (Jc h rfl k_0<|Jl h rfl)) (Jb h rfl rfl<|Jc h rfl k_2<|JA h rfl (Jd h rfl rfl<|Jb h rfl rfl<|Jf h rfl rfl) (Jb h rfl rfl<|Jc h rfl k_16<|JA h rfl (Jd h rfl rfl<|Jb h rfl rfl<|Jf h rfl rfl) (Jb h rfl rfl<|Jc h rfl k_17<|JA h rfl (Jd h rfl rfl<|Jb h rfl rfl<|Jf h rfl rfl) (Jc h rfl k_0<|Jl h rfl))))
theorem e1_25_51{f1}(h:Fx f1)(x1 x2 y0:Int32)(S):f1 (25,51,[.ref 0,.int x1,.int x2],[.int y0],S)=if y0<0 then some (some (.int 0),S) else if x1=2 then if inb y0 32=true then some (some (.int 1),(upd (upd S 4 (y0).toNatClampNeg x2) 0 11 1)) else none else (f1 (29,0,[.ref 0],[],S)).bind fun q=>f1 (25,81,[.ref 0,.int x1,.int x2,.int y0],q.1.toList++[],q.2):=Je h rfl [.ref 0,.int x1,.int x2,.int y0]<|Jb h rfl rfl<|JQ h rfl (Jc h rfl k_0<|Jl h rfl) (Jb h rfl rfl<|Jc h rfl k_2<|Jp h rfl (Jd h rfl rfl<|Jg h rfl<|Jb h rfl rfl<|Jb h rfl rfl<|Jv h rfl rfl x2 fun i0=>Jd h rfl rfl<|Jc h rfl k_1<|Jw h rfl<|Jc h rfl k_1<|JC h rfl) (Jd h rfl rfl<|Jf h rfl rfl))
theorem e1_25_81{f1}(h:Fx f1)(x1 x2 x3:Int32)(S):f1 (25,81,[.ref 0,.int x1,.int x2,.int x3],[],S)=some (some (.int 1),(upd S 0 11 2)):=Jd h rfl rfl<|Jc h rfl k_2<|Jw h rfl<|Jc h rfl k_1<|JC h rfl
theorem e1_26_0{f1}(h:Fx f1)(x1:Int32)(S):f1 (26,0,[.ref 0,.int x1],[],S)=if (S 0 4)<0 then some (some (.int (-1)),S) else if (S 0 4)<32 then if (S 0 13)<0 then some (some (.int (-1)),S) else if (S 0 13)<40 then f1 (26,51,[.ref 0,.int x1,.int (S 0 4)],[],(upd S 0 4 ((S 0 4)+1))) else some (some (.int (-1)),S) else some (some (.int (-1)),S):=Jd h rfl rfl<|Jj h rfl (S 0 4)<|JB h rfl (Jc h rfl k_m1<|Ji h rfl) (Jd h rfl rfl<|Jj h rfl (S 0 4)<|Jc h rfl k_32<|JK h rfl (Jd h rfl rfl<|Jj h rfl (S 0 13)<|JB h rfl (Jc h rfl k_m1<|Ji h rfl) (Jd h rfl rfl<|Jj h rfl (S 0 13)<|Jc h rfl k_40<|JK h rfl (Jd h rfl rfl<|Jj h rfl (S 0 4)<|Je h rfl [.ref 0,.int x1,.int (S 0 4)]<|Jd h rfl rfl<|JO h rfl<|Jj h rfl (S 0 4)<|Jc h rfl k_1<|Jt h rfl<|Jw h rfl rfl) (Jc h rfl k_m1<|Ji h rfl))) (Jc h rfl k_m1<|Ji h rfl))
theorem e1_26_51{f1}(h:Fx f1)(x1 x2:Int32)(S):f1 (26,51,[.ref 0,.int x1,.int x2],[],S)=if inb x2 32=true then f1 (26,86,[.ref 0,.int x1,.int x2],[],(upd (upd (upd (upd (upd S 3 (x2).toNatClampNeg x1) 4 (x2).toNatClampNeg 0) 8 (x2).toNatClampNeg (-1)) 7 (x2).toNatClampNeg (-1)) 12 (x2).toNatClampNeg 0)) else none:=Jd h rfl rfl<|Jg h rfl<|Jb h rfl rfl<|Jb h rfl rfl<|Jv h rfl rfl x1 fun i0=>Jd h rfl rfl<|Jg h rfl<|Jb h rfl rfl<|Jc h rfl k_0<|Jx h rfl rfl 0 i0<|Jd h rfl rfl<|Jg h rfl<|Jb h rfl rfl<|Jc h rfl k_m1<|Jx h rfl rfl (-1) i0<|Jd h rfl rfl<|Jg h rfl<|Jb h rfl rfl<|Jc h rfl k_m1<|Jx h rfl rfl (-1) i0<|Jd h rfl rfl<|Jg h rfl<|Jb h rfl rfl<|Jc h rfl k_0<|Jx h rfl rfl 0 i0 rfl
theorem e1_26_86{f1}(h:Fx f1)(x1 x2:Int32)(S):f1 (26,86,[.ref 0,.int x1,.int x2],[],S)=if inb x2 32=true then f1 (26,125,[.ref 0,.int x1,.int x2],[],(upd (upd (upd (upd (upd S 10 (x2).toNatClampNeg (-1)) 11 (x2).toNatClampNeg (-2)) 13 (x2).toNatClampNeg 1) 14 (x2).toNatClampNeg 0) 9 (x2).toNatClampNeg (S 0 6))) else none:=Jd h rfl rfl<|Jg h rfl<|Jb h rfl rfl<|Jc h rfl k_m1<|Jv h rfl rfl (-1) fun i0=>Jd h rfl rfl<|Jg h rfl<|Jb h rfl rfl<|Jc h rfl k_m2<|Jx h rfl rfl (-2) i0<|Jd h rfl rfl<|Jg h rfl<|Jb h rfl rfl<|Jc h rfl k_1<|Jx h rfl rfl 1 i0<|Jd h rfl rfl<|Jg h rfl<|Jb h rfl rfl<|Jc h rfl k_0<|Jx h rfl rfl 0 i0<|Jd h rfl rfl<|Jg h rfl<|Jb h rfl rfl<|Jd h rfl rfl<|Jj h rfl (S 0 6)<|Jx h rfl rfl (S 0 6) i0 rfl
theorem e1_26_125{f1}(h:Fx f1)(x1 x2:Int32)(S):f1 (26,125,[.ref 0,.int x1,.int x2],[],S)=if inb (S 0 13) 40=true then f1 (26,146,[.ref 0,.int x1,.int x2,.int (S 25 ((S 0 13)).toNatClampNeg),.int (S 26 ((S 0 13)).toNatClampNeg)],[],S) else none:=Jd h rfl rfl<|Jg h rfl<|Jd h rfl rfl<|Jj h rfl (S 0 13)<|Jo h rfl rfl (S 25 ((S 0 13)).toNatClampNeg) fun i0=>Je h rfl [.ref 0,.int x1,.int x2,.int (S 25 ((S 0 13)).toNatClampNeg)]<|Jd h rfl rfl<|Jg h rfl<|Jd h rfl rfl<|Jj h rfl (S 0 13)<|JF h rfl rfl i0 (S 26 ((S 0 13)).toNatClampNeg)<|Je h rfl [.ref 0,.int x1,.int x2,.int (S 25 ((S 0 13)).toNatClampNeg),.int (S 26 ((S 0 13)).toNatClampNeg)] rfl
theorem e1_26_146{f1}(h:Fx f1)(x1 x2 x3 x4:Int32)(S):f1 (26,146,[.ref 0,.int x1,.int x2,.int x3,.int x4],[],S)=if inb x2 32=true then if x4<0 then f1 (26,184,[.ref 0,.int x1,.int x2,.int x3,.int x4],[],(upd (upd S 5 (x2).toNatClampNeg x3) 6 (x2).toNatClampNeg x4)) else if x4<32 then if inb x4 32=true then f1 (26,201,[.ref 0,.int x1,.int x2,.int x3,.int x4],[],(upd (upd (upd S 5 (x2).toNatClampNeg x3) 6 (x2).toNatClampNeg x4) 7 (x4).toNatClampNeg x2)) else none else f1 (26,184,[.ref 0,.int x1,.int x2,.int x3,.int x4],[],(upd (upd S 5 (x2).toNatClampNeg x3) 6 (x2).toNatClampNeg x4)) else none:=Jd h rfl rfl<|Jg h rfl<|Jb h rfl rfl<|Jb h rfl rfl<|Jv h rfl rfl x3 fun i0=>Jd h rfl rfl<|Jg h rfl<|Jb h rfl rfl<|Jb h rfl rfl<|Jx h rfl rfl x4 i0<|Jb h rfl rfl<|JB h rfl rfl (Jb h rfl rfl<|Jc h rfl k_32<|Jm h rfl (Jd h rfl rfl<|Jg h rfl<|Jb h rfl rfl<|Jb h rfl rfl<|Jv h rfl rfl x2 fun i1=>Jh h rfl rfl) rfl)
theorem e1_26_184{f1}(h:Fx f1)(x1 x2 x3 x4:Int32)(S):f1 (26,184,[.ref 0,.int x1,.int x2,.int x3,.int x4],[],S)=if x3<0 then f1 (26,201,[.ref 0,.int x1,.int x2,.int x3,.int x4],[],S) else if x3<32 then if inb x3 32=true then f1 (26,201,[.ref 0,.int x1,.int x2,.int x3,.int x4],[],(upd S 8 (x3).toNatClampNeg x2)) else none else f1 (26,201,[.ref 0,.int x1,.int x2,.int x3,.int x4],[],S):=Jb h rfl rfl<|JB h rfl rfl (Jb h rfl rfl<|Jc h rfl k_32<|Jm h rfl (Jd h rfl rfl<|Jg h rfl<|Jb h rfl rfl<|Jb h rfl rfl<|Jv h rfl rfl x2 fun i0=>rfl) rfl)
theorem e1_26_201{f1}(h:Fx f1)(x1 x2 x3 x4:Int32)(S):f1 (26,201,[.ref 0,.int x1,.int x2,.int x3,.int x4],[],S)=if inb (S 0 13) 40=true then some (some (.int x2),(upd (upd S 26 ((S 0 13)).toNatClampNeg x2) 0 12 x2)) else none:=Jd h rfl rfl<|Jg h rfl<|Jd h rfl rfl<|Jj h rfl (S 0 13)<|Jb h rfl rfl<|Jv h rfl rfl x2 fun i0=>Jd h rfl rfl<|Jb h rfl rfl<|Jw h rfl<|Jb h rfl rfl<|Ji h rfl
theorem e1_30_0{f1}(h:Fx f1)(x1 x2:Int32)(S):f1 (30,0,[.ref 0,.int x1,.int x2],[],S)=if x1=1 then f1 (30,10,[.ref 0,.int x1,.int x2],[],S) else if x1=2 then f1 (30,10,[.ref 0,.int x1,.int x2],[],S) else if x1=6 then (f1 (36,0,[.ref 0,.int 20],[],S)).bind fun q=>f1 (30,49,[.ref 0,.int x1,.int x2],q.1.toList++[],q.2) else if x1=12 then if (S 0 16)<0 then some (some (.int 0),S) else if ((S 0 16)+1)<96 then (f1 (36,0,[.ref 0,.int 21],[],S)).bind fun q=>f1 (30,82,[.ref 0,.int x1,.int x2],q.1.toList++[],q.2) else some (some (.int 0),S) else some (some (.int 0),S):=Jb h rfl rfl<|Jc h rfl k_1<|JA h rfl rfl (Jb h rfl rfl<|Jc h rfl k_2<|Jp h rfl rfl (Jb h rfl rfl<|Jc h rfl k_6<|Jp h rfl (Jd h rfl rfl<|Jc h rfl k_20<|Jf h rfl rfl) (Jb h rfl rfl<|Jc h rfl k_12<|Jp h rfl (Jd h rfl rfl<|Jj h rfl (S 0 16)<|JB h rfl (Jc h rfl k_0<|Jl h rfl) (Jd h rfl rfl<|Jj h rfl (S 0 16)<|Jc h rfl k_1<|Jt h rfl<|Jc h rfl k_96<|JK h rfl (Jd h rfl rfl<|Jc h rfl k_21<|Jf h rfl rfl) (Jc h rfl k_0<|Jl h rfl))) (Jc h rfl k_0<|Jl h rfl))))
theorem e1_30_10{f1}(h:Fx f1)(x1 x2:Int32)(S):f1 (30,10,[.ref 0,.int x1,.int x2],[],S)=if x1=1 then (f1 (38,0,[.ref 0,.int 1,.int x2],[],S)).bind fun q=>f1 (30,25,[.ref 0,.int x1,.int x2,.int 1],q.1.toList++[],q.2) else (f1 (38,0,[.ref 0,.int 2,.int x2],[],S)).bind fun q=>f1 (30,25,[.ref 0,.int x1,.int x2,.int 2],q.1.toList++[],q.2):=Jc h rfl k_2<|Je h rfl [.ref 0,.int x1,.int x2,.int 2]<|Jb h rfl rfl<|Jc h rfl k_1<|Jp h rfl (Jc h rfl k_1<|Je h rfl [.ref 0,.int x1,.int x2,.int 1]<|Jd h rfl rfl<|Jb h rfl rfl<|Jb h rfl rfl<|Jf h rfl rfl) (Jd h rfl rfl<|Jb h rfl rfl<|Jb h rfl rfl<|Jf h rfl rfl)
theorem e1_30_25{f1}(h:Fx f1)(x1 x2 x3 y0:Int32)(S):f1 (30,25,[.ref 0,.int x1,.int x2,.int x3],[.int y0],S)=if y0=0 then some (some (.int 0),S) else some (some (.int 1),(upd S 0 11 3)):=Js h rfl (Jc h rfl k_0<|Jl h rfl) (Jd h rfl rfl<|Jc h rfl k_3<|Jw h rfl<|Jc h rfl k_1<|JC h rfl)
theorem e1_38_0{f1}(h:Fx f1)(x1 x2:Int32)(S):f1 (38,0,[.ref 0,.int x1,.int x2],[],S)=if (S 0 14)<0 then some (some (.int 0),S) else if (S 0 14)<96 then if inb (S 0 14) 96=true then some (some (.int 1),(upd (upd (upd S 27 ((S 0 14)).toNatClampNeg x1) 28 ((S 0 14)).toNatClampNeg x2) 0 14 ((S 0 14)+1))) else none else some (some (.int 0),S):=Jd h rfl rfl<|Jj h rfl (S 0 14)<|JB h rfl (Jc h rfl k_0<|Jl h rfl) (Jd h rfl rfl<|Jj h rfl (S 0 14)<|Jc h rfl k_96<|JK h rfl (Jd h rfl rfl<|Jg h rfl<|Jd h rfl rfl<|Jj h rfl (S 0 14)<|Jb h rfl rfl<|Jv h rfl rfl x1 fun i0=>Jd h rfl rfl<|Jg h rfl<|Jd h rfl rfl<|Jj h rfl (S 0 14)<|Jb h rfl rfl<|Jx h rfl rfl x2 i0<|Jd h rfl rfl<|JO h rfl<|Jj h rfl (S 0 14)<|Jc h rfl k_1<|Jt h rfl<|Jw h rfl<|Jc h rfl k_1<|JC h rfl) (Jc h rfl k_0<|Jl h rfl))
theorem e1_31_0{f1}(h:Fx f1)(x1:Int32)(S):f1 (31,0,[.ref 0,.int x1],[],S)=(f1 (34,0,[.ref 0,.int x1],[],S)).bind fun q=>f1 (31,5,[.ref 0,.int x1],q.1.toList++[],q.2):=Jd h rfl rfl<|Jb h rfl rfl<|Jf h rfl rfl
theorem e1_31_5{f1}(h:Fx f1)(x1 y0:Int32)(S):f1 (31,5,[.ref 0,.int x1],[.int y0],S)=if y0=0 then if x1=13 then f1 (31,21,[.ref 0,.int x1],[.ref 0],S) else if (S 0 16)=0 then (f1 (28,0,[.ref 0],[],S)).bind fun q=>f1 (31,38,[.ref 0,.int x1],q.1.toList++[],q.2) else some (some (.int 0),S) else (f1 (32,0,[.ref 0,.int x1],[],S)).bind fun q=>f1 (31,13,[.ref 0,.int x1],q.1.toList++[],q.2):=Jy h rfl (Jb h rfl rfl<|Jc h rfl k_13<|Jp h rfl (Jd h rfl rfl rfl) (Jd h rfl rfl<|Jj h rfl (S 0 16)<|Jy h rfl (Jd h rfl rfl<|Jf h rfl rfl) (Jc h rfl k_0<|Jl h rfl))) (Jd h rfl rfl<|Jb h rfl rfl<|Jf h rfl rfl)
theorem e1_31_13{f1}(h:Fx f1)(x1 y0:Int32)(S):f1 (31,13,[.ref 0,.int x1],[.int y0],S)=some (some (.int (y0&&&1)),S):=J6 h rfl
theorem e1_31_38{f1}(h:Fx f1)(x1 y0:Int32)(S):f1 (31,38,[.ref 0,.int x1],[.int y0],S)=if y0=0 then f1 (31,64,[.ref 0,.int x1,.int y0],[],S) else if x1=4 then (f1 (37,0,[.ref 0,.int 0],[],S)).bind fun q=>f1 (31,53,[.ref 0,.int x1,.int y0],q.1.toList++[],q.2) else f1 (31,64,[.ref 0,.int x1,.int y0],[],S):=Je h rfl [.ref 0,.int x1,.int y0]<|Jb h rfl rfl<|Jy h rfl rfl (Jb h rfl rfl<|Jc h rfl k_4<|Jp h rfl (Jd h rfl rfl<|Jc h rfl k_0<|Jf h rfl rfl) rfl)
theorem e1_31_53{f1}(h:Fx f1)(x1 x2:Int32)(S):f1 (31,53,[.ref 0,.int x1,.int x2],[],S)=(f1 (50,0,[.ref 0],[],S)).bind fun q=>f1 (31,57,[.ref 0,.int x1,.int x2],q.1.toList++[],q.2):=Jd h rfl rfl<|Jf h rfl rfl
theorem e1_31_57{f1}(h:Fx f1)(x1 x2:Int32)(S):f1 (31,57,[.ref 0,.int x1,.int x2],[],S)=some (some (.int 1),(upd S 0 11 0)):=Jd h rfl rfl<|Jc h rfl k_0<|Jw h rfl<|Jc h rfl k_1<|JC h rfl
theorem e1_31_64{f1}(h:Fx f1)(x1 x2:Int32)(S):f1 (31,64,[.ref 0,.int x1,.int x2],[],S)=if x2=0 then if x1=14 then (f1 (37,0,[.ref 0,.int 0],[],S)).bind fun q=>f1 (31,79,[.ref 0,.int x1,.int x2],q.1.toList++[],q.2) else some (some (.int 0),S) else some (some (.int 0),S):=Jb h rfl rfl<|Js h rfl (Jb h rfl rfl<|Jc h rfl k_14<|Jp h rfl (Jd h rfl rfl<|Jc h rfl k_0<|Jf h rfl rfl) (Jc h rfl k_0<|Jl h rfl)) (Jc h rfl k_0<|Jl h rfl)
theorem e1_31_79{f1}(h:Fx f1)(x1 x2:Int32)(S):f1 (31,79,[.ref 0,.int x1,.int x2],[],S)=(f1 (51,0,[.ref 0],[],S)).bind fun q=>f1 (31,83,[.ref 0,.int x1,.int x2],q.1.toList++[],q.2):=Jd h rfl rfl<|Jf h rfl rfl
theorem e1_31_83{f1}(h:Fx f1)(x1 x2:Int32)(S):f1 (31,83,[.ref 0,.int x1,.int x2],[],S)=(f1 (27,0,[.ref 0],[],S)).bind fun q=>f1 (31,87,[.ref 0,.int x1,.int x2],q.1.toList++[],q.2):=Jd h rfl rfl<|Jf h rfl rfl
theorem e1_31_87{f1}(h:Fx f1)(x1 x2 y0:Int32)(S):f1 (31,87,[.ref 0,.int x1,.int x2],[.int y0],S)=some (some (.int (y0&&&1)),S):=J6 h rfl
theorem e1_34_0{f1}(h:Fx f1)(x1:Int32)(S):f1 (34,0,[.ref 0,.int x1],[],S)=if x1<5 then some (some (.int 0),S) else if 11<x1 then some (some (.int 0),S) else some (some (.int 1),S):=Jb h rfl rfl<|Jc h rfl k_5<|JK h rfl (Jc h rfl k_0<|Jl h rfl) (Jb h rfl rfl<|Jc h rfl k_11<|JU h rfl (Jc h rfl k_0<|Jl h rfl) (Jc h rfl k_1<|Jh h rfl<|JC h rfl))
theorem e1_28_0{f1}(h:Fx f1)(S):f1 (28,0,[.ref 0],[],S)=if (S 0 12)<0 then some (some (.int 0),S) else if (S 0 12)<32 then if inb (S 0 12) 32=true then if (S 3 ((S 0 12)).toNatClampNeg)=2 then some (some (.int 1),S) else some (some (.int 0),S) else none else some (some (.int 0),S):=Jd h rfl rfl<|Jj h rfl (S 0 12)<|JB h rfl (Jc h rfl k_0<|Jl h rfl) (Jd h rfl rfl<|Jj h rfl (S 0 12)<|Jc h rfl k_32<|JK h rfl (Jd h rfl rfl<|Jg h rfl<|Jd h rfl rfl<|Jj h rfl (S 0 12)<|Jo h rfl rfl (S 3 ((S 0 12)).toNatClampNeg) fun i0=>Jc h rfl k_2<|Jp h rfl (Jc h rfl k_1<|Jh h rfl<|JC h rfl) (Jc h rfl k_0<|Jl h rfl)) (Jc h rfl k_0<|Jl h rfl))
theorem e1_37_0{f1}(h:Fx f1)(x1:Int32)(S):f1 (37,0,[.ref 0,.int x1],[],S)=f1 (37,2,[.ref 0,.int x1,.int 0],[],S):=Jc h rfl k_0<|Je h rfl [.ref 0,.int x1,.int 0] rfl
theorem e1_37_2{f1}(h:Fx f1)(x1 x2:Int32)(S):f1 (37,2,[.ref 0,.int x1,.int x2],[],S)=if x2<96 then if 0<(S 0 15) then if 96<(S 0 15) then some (none,S) else if inb ((S 0 15)-1) 96=true then if (S 30 (((S 0 15)-1)).toNatClampNeg)=21 then some (none,S) else (f1 (35,0,[.ref 0,.int (S 30 (((S 0 15)-1)).toNatClampNeg)],[],S)).bind fun q=>f1 (37,48,[.ref 0,.int x1,.int x2,.int (S 30 (((S 0 15)-1)).toNatClampNeg)],q.1.toList++[],q.2) else none else some (none,S) else some (none,S):=Jb h rfl rfl<|Jc h rfl k_96<|Jm h rfl (Jd h rfl rfl<|Jj h rfl (S 0 15)<|Jac h rfl (Jd h rfl rfl<|Jj h rfl (S 0 15)<|Jc h rfl k_96<|JU h rfl (Jk h rfl) (Jd h rfl rfl<|Jg h rfl<|Jd h rfl rfl<|Jj h rfl (S 0 15)<|Jc h rfl k_1<|JG h rfl<|Jo h rfl rfl (S 30 (((S 0 15)-1)).toNatClampNeg) fun i0=>Je h rfl [.ref 0,.int x1,.int x2,.int (S 30 (((S 0 15)-1)).toNatClampNeg)]<|Jb h rfl rfl<|Jc h rfl k_21<|Jp h rfl (Jk h rfl) (Jd h rfl rfl<|Jb h rfl rfl<|Jf h rfl rfl))) (Jk h rfl)) (Jk h rfl)
theorem e1_37_48{f1}(h:Fx f1)(x1 x2 x3 y0:Int32)(S):f1 (37,48,[.ref 0,.int x1,.int x2,.int x3],[.int y0],S)=if y0<x1 then some (none,S) else (f1 (39,0,[.ref 0,.int x3],[],(upd S 0 15 ((S 0 15)-1)))).bind fun q=>f1 (37,72,[.ref 0,.int x1,.int x2,.int x3,.int y0],q.1.toList++[],q.2):=Je h rfl [.ref 0,.int x1,.int x2,.int x3,.int y0]<|Jb h rfl rfl<|Jb h rfl rfl<|Jm h rfl (Jk h rfl) (Jd h rfl rfl<|JO h rfl<|Jj h rfl (S 0 15)<|Jc h rfl k_1<|JG h rfl<|Jw h rfl<|Jd h rfl rfl<|Jb h rfl rfl<|Jf h rfl rfl)
theorem e1_37_72{f1}(h:Fx f1)(x1 x2 x3 x4:Int32)(S):f1 (37,72,[.ref 0,.int x1,.int x2,.int x3,.int x4],[],S)=f1 (37,2,[.ref 0,.int x1,.int (x2+1)],[],S):=Jn h rfl k_1 rfl [.ref 0,.int x1,.int (x2+1),.int x3,.int x4]<|Jh h rfl<|Jr h rfl rfl
theorem e1_50_0{f1}(h:Fx f1)(S):f1 (50,0,[.ref 0],[],S)=if (S 0 12)<0 then some (none,S) else if (S 0 12)<32 then if inb (S 0 12) 32=true then if (S 0 14)<1 then f1 (50,77,[.ref 0,.int (S 0 12),.int (S 4 ((S 0 12)).toNatClampNeg)],[],S) else if (S 27 0)=1 then (f1 (52,0,[.ref 0,.int 4,.int (S 4 ((S 0 12)).toNatClampNeg),.int (S 28 0),.int 0],[],S)).bind fun q=>f1 (50,54,[.ref 0,.int (S 0 12),.int (S 4 ((S 0 12)).toNatClampNeg)],q.1.toList++[],q.2) else f1 (50,77,[.ref 0,.int (S 0 12),.int (S 4 ((S 0 12)).toNatClampNeg)],[],S) else none else some (none,S):=Jd h rfl rfl<|Jj h rfl (S 0 12)<|Je h rfl [.ref 0,.int (S 0 12)]<|Jb h rfl rfl<|JB h rfl (Jk h rfl) (Jb h rfl rfl<|Jc h rfl k_32<|JK h rfl (Jd h rfl rfl<|Jg h rfl<|Jb h rfl rfl<|Jo h rfl rfl (S 4 ((S 0 12)).toNatClampNeg) fun i0=>Je h rfl [.ref 0,.int (S 0 12),.int (S 4 ((S 0 12)).toNatClampNeg)]<|Jd h rfl rfl<|Jj h rfl (S 0 14)<|Jc h rfl k_1<|JK h rfl rfl (Jd h rfl rfl<|Jg h rfl<|Jc h rfl k_0<|Jaz h rfl rfl 0 (S 27 0)<|Jc h rfl k_1<|Jp h rfl (Jd h rfl rfl<|Jc h rfl k_4<|Jb h rfl rfl<|Jd h rfl rfl<|Jg h rfl<|Jc h rfl k_0<|Jaz h rfl rfl 0 (S 28 0)<|Jc h rfl k_0<|Jf h rfl rfl) rfl)) (Jk h rfl))
theorem e1_50_54{f1}(h:Fx f1)(x1 x2 y0:Int32)(S):f1 (50,54,[.ref 0,.int x1,.int x2],[.int y0],S)=if inb x1 32=true then (f1 (52,0,[.ref 0,.int 8,.int 0,.int (-2),.int 0],[],(upd (upd S 13 (x1).toNatClampNeg 2) 14 (x1).toNatClampNeg (S 28 0)))).bind fun q=>f1 (50,130,[.ref 0,.int x1,.int x2],q.1.toList++[.int x1,.ref 10],q.2) else none:=JN h rfl<|Jd h rfl rfl<|Jg h rfl<|Jb h rfl rfl<|Jc h rfl k_2<|Jv h rfl rfl 2 fun i0=>Jd h rfl rfl<|Jg h rfl<|Jb h rfl rfl<|Jd h rfl rfl<|Jg h rfl<|Jc h rfl k_0<|Jaz h rfl rfl 0 (S 28 0)<|Jx h rfl rfl (S 28 0) i0<|Jh h rfl<|Jd h rfl rfl<|Jg h rfl<|Jb h rfl rfl<|Jd h rfl rfl<|Jc h rfl k_8<|Jc h rfl k_0<|Jc h rfl k_m2<|Jc h rfl k_0<|Jf h rfl rfl
theorem e1_50_77{f1}(h:Fx f1)(x1 x2:Int32)(S):f1 (50,77,[.ref 0,.int x1,.int x2],[],S)=if (S 0 14)<1 then (f1 (52,0,[.ref 0,.int 8,.int 0,.int (-2),.int 0],[],S)).bind fun q=>f1 (50,130,[.ref 0,.int x1,.int x2],q.1.toList++[.int x1,.ref 10],q.2) else (f1 (48,0,[.ref 0,.int 0,.int (-1)],[],S)).bind fun q=>f1 (50,91,[.ref 0,.int x1,.int x2],q.1.toList++[],q.2):=Jd h rfl rfl<|Jj h rfl (S 0 14)<|Jc h rfl k_1<|JK h rfl (Jd h rfl rfl<|Jg h rfl<|Jb h rfl rfl<|Jd h rfl rfl<|Jc h rfl k_8<|Jc h rfl k_0<|Jc h rfl k_m2<|Jc h rfl k_0<|Jf h rfl rfl) (Jd h rfl rfl<|Jc h rfl k_0<|Jc h rfl k_m1<|Jf h rfl rfl)
theorem e1_50_91{f1}(h:Fx f1)(x1 x2 y0:Int32)(S):f1 (50,91,[.ref 0,.int x1,.int x2],[.int y0],S)=(f1 (52,0,[.ref 0,.int 3,.int x2,.int y0,.int 0],[],S)).bind fun q=>f1 (50,100,[.ref 0,.int x1,.int x2,.int y0],q.1.toList++[],q.2):=Je h rfl [.ref 0,.int x1,.int x2,.int y0]<|Jd h rfl rfl<|Jc h rfl k_3<|Jb h rfl rfl<|Jb h rfl rfl<|Jc h rfl k_0<|Jf h rfl rfl
theorem e1_50_100{f1}(h:Fx f1)(x1 x2 x3 y0:Int32)(S):f1 (50,100,[.ref 0,.int x1,.int x2,.int x3],[.int y0],S)=if inb x1 32=true then (f1 (52,0,[.ref 0,.int 8,.int 0,.int (-2),.int 0],[],(upd (upd S 13 (x1).toNatClampNeg 3) 14 (x1).toNatClampNeg x3))).bind fun q=>f1 (50,130,[.ref 0,.int x1,.int x2],q.1.toList++[.int x1,.ref 10],q.2) else none:=JN h rfl<|Jd h rfl rfl<|Jg h rfl<|Jb h rfl rfl<|Jc h rfl k_3<|Jv h rfl rfl 3 fun i0=>Jd h rfl rfl<|Jg h rfl<|Jb h rfl rfl<|Jb h rfl rfl<|Jx h rfl rfl x3 i0<|Jr h rfl<|Jd h rfl rfl<|Jg h rfl<|Jb h rfl rfl<|Jd h rfl rfl<|Jc h rfl k_8<|Jc h rfl k_0<|Jc h rfl k_m2<|Jc h rfl k_0<|Jf h rfl rfl
theorem e1_50_130{f1}(h:Fx f1)(x1 x2 y0 y1:Int32)(S):f1 (50,130,[.ref 0,.int x1,.int x2],[.int y0,.int y1,.ref 10],S)=if inb y1 32=true then some (none,(upd S 10 (y1).toNatClampNeg y0)) else none:=Jv h rfl rfl y0 fun i0=>Jk h rfl
theorem e1_52_0{f1}(h:Fx f1)(x1 x2 x3 x4:Int32)(S):f1 (52,0,[.ref 0,.int x1,.int x2,.int x3,.int x4],[],S)=if (S 0 6)<0 then some (some (.int (-1)),S) else if (S 0 6)<1024 then if inb (S 0 6) 1024=true then some (some (.int (S 0 6)),(upd (upd (upd (upd (upd S 19 ((S 0 6)).toNatClampNeg x1) 20 ((S 0 6)).toNatClampNeg x2) 21 ((S 0 6)).toNatClampNeg x3) 22 ((S 0 6)).toNatClampNeg x4) 0 6 ((S 0 6)+1))) else none else some (some (.int (-1)),S):=Jd h rfl rfl<|Jj h rfl (S 0 6)<|JB h rfl (Jc h rfl k_m1<|Ji h rfl) (Jd h rfl rfl<|Jj h rfl (S 0 6)<|Jc h rfl k_1024<|JK h rfl (Jd h rfl rfl<|Jj h rfl (S 0 6)<|Je h rfl [.ref 0,.int x1,.int x2,.int x3,.int x4,.int (S 0 6)]<|Jd h rfl rfl<|Jg h rfl<|Jb h rfl rfl<|Jb h rfl rfl<|Jv h rfl rfl x1 fun i0=>Jd h rfl rfl<|Jg h rfl<|Jb h rfl rfl<|Jb h rfl rfl<|Jx h rfl rfl x2 i0<|Jd h rfl rfl<|Jg h rfl<|Jb h rfl rfl<|Jb h rfl rfl<|Jx h rfl rfl x3 i0<|Jd h rfl rfl<|Jg h rfl<|Jb h rfl rfl<|Jb h rfl rfl<|Jx h rfl rfl x4 i0<|Jd h rfl rfl<|JO h rfl<|Jj h rfl (S 0 6)<|Jc h rfl k_1<|Jt h rfl<|Jw h rfl<|Jb h rfl rfl<|Ji h rfl) (Jc h rfl k_m1<|Ji h rfl))
theorem e1_53_0{f1}(h:Fx f1)(S):f1 (53,0,[.ref 0],[],S)=f1 (53,12,[.ref 0,.int 0],[],(upd S 0 5 (S 26 0))):=Jd h rfl rfl<|Jd h rfl rfl<|Jg h rfl<|Jc h rfl k_0<|Jaz h rfl rfl 0 (S 26 0)<|Jw h rfl<|Jc h rfl k_0<|Je h rfl [.ref 0,.int 0] rfl
theorem e1_53_12{f1}(h:Fx f1)(x1:Int32)(S):f1 (53,12,[.ref 0,.int x1],[],S)=if x1<(S 0 4) then if x1<32 then (f1 (54,0,[.ref 0,.int x1],[],S)).bind fun q=>f1 (53,36,[.ref 0,.int x1],q.1.toList++[.int x1,.ref 11],q.2) else f1 (53,45,[.ref 0,.int 0],[],S) else f1 (53,45,[.ref 0,.int 0],[],S):=Jb h rfl rfl<|Jd h rfl rfl<|Jj h rfl (S 0 4)<|Jm h rfl (Jb h rfl rfl<|Jc h rfl k_32<|Jm h rfl (Jd h rfl rfl<|Jg h rfl<|Jb h rfl rfl<|Jd h rfl rfl<|Jb h rfl rfl<|Jf h rfl rfl) (Jc h rfl k_0<|Je h rfl [.ref 0,.int 0] rfl)) (Jc h rfl k_0<|Je h rfl [.ref 0,.int 0] rfl)
theorem e1_53_36{f1}(h:Fx f1)(x1 y0 y1:Int32)(S):f1 (53,36,[.ref 0,.int x1],[.int y0,.int y1,.ref 11],S)=if inb y1 32=true then f1 (53,12,[.ref 0,.int (x1+1)],[],(upd S 11 (y1).toNatClampNeg y0)) else none:=Jv h rfl rfl y0 fun i0=>Jn h rfl k_1 rfl [.ref 0,.int (x1+1)]<|Jh h rfl rfl
theorem e1_53_45{f1}(h:Fx f1)(x1:Int32)(S):f1 (53,45,[.ref 0,.int x1],[],S)=if x1<(S 0 4) then if x1<32 then (f1 (55,0,[.ref 0,.int x1],[],S)).bind fun q=>f1 (53,64,[.ref 0,.int x1],q.1.toList++[],q.2) else (f1 (57,0,[.ref 0],[],S)).bind fun q=>f1 (53,74,[.ref 0,.int x1],q.1.toList++[],q.2) else (f1 (57,0,[.ref 0],[],S)).bind fun q=>f1 (53,74,[.ref 0,.int x1],q.1.toList++[],q.2):=Jb h rfl rfl<|Jd h rfl rfl<|Jj h rfl (S 0 4)<|Jm h rfl (Jb h rfl rfl<|Jc h rfl k_32<|Jm h rfl (Jd h rfl rfl<|Jb h rfl rfl<|Jf h rfl rfl) (Jd h rfl rfl<|Jf h rfl rfl)) (Jd h rfl rfl<|Jf h rfl rfl)
theorem e1_53_64{f1}(h:Fx f1)(x1:Int32)(S):f1 (53,64,[.ref 0,.int x1],[],S)=f1 (53,45,[.ref 0,.int (x1+1)],[],S):=Jn h rfl k_1 rfl [.ref 0,.int (x1+1)]<|Jh h rfl rfl
theorem e1_53_74{f1}(h:Fx f1)(x1:Int32)(S):f1 (53,74,[.ref 0,.int x1],[],S)=(f1 (58,0,[.ref 0],[],S)).bind fun q=>f1 (53,78,[.ref 0,.int x1],q.1.toList++[],q.2):=Jd h rfl rfl<|Jf h rfl rfl
theorem e1_53_78{f1}(h:Fx f1)(x1:Int32)(S):f1 (53,78,[.ref 0,.int x1],[],S)=some (none,S):=Jk h rfl
theorem e1_54_0{f1}(h:Fx f1)(x1:Int32)(S):f1 (54,0,[.ref 0,.int x1],[],S)=f1 (54,4,[.ref 0,.int x1,.int x1,.int 0],[],S):=Jb h rfl rfl<|Je h rfl [.ref 0,.int x1,.int x1]<|Jc h rfl k_0<|Je h rfl [.ref 0,.int x1,.int x1,.int 0] rfl
theorem e1_54_4{f1}(h:Fx f1)(x1 x2 x3:Int32)(S):f1 (54,4,[.ref 0,.int x1,.int x2,.int x3],[],S)=if 32<x3 then some (some (.int (-2)),S) else if x2<0 then some (some (.int (-2)),S) else if x2<(S 0 4) then if x2<32 then if inb x2 32=true then if (S 7 (x2).toNatClampNeg)<0 then if (S 5 (x2).toNatClampNeg)<0 then some (some (.int (-2)),S) else if (S 5 (x2).toNatClampNeg)<32 then if inb (S 5 (x2).toNatClampNeg) 32=true then if (S 3 ((S 5 (x2).toNatClampNeg)).toNatClampNeg)=16 then some (some (.int (S 5 (x2).toNatClampNeg)),S) else f1 (54,4,[.ref 0,.int x1,.int (S 5 (x2).toNatClampNeg),.int (x3+1)],[],S) else none else some (some (.int (-2)),S) else some (some (.int (S 7 (x2).toNatClampNeg)),S) else none else some (some (.int (-2)),S) else some (some (.int (-2)),S):=Jb h rfl rfl<|Jc h rfl k_32<|JU h rfl (Jc h rfl k_m2<|Ji h rfl) (Jb h rfl rfl<|JB h rfl (Jc h rfl k_m2<|Ji h rfl) (Jb h rfl rfl<|Jd h rfl rfl<|Jj h rfl (S 0 4)<|Jm h rfl (Jb h rfl rfl<|Jc h rfl k_32<|JK h rfl (Jd h rfl rfl<|Jg h rfl<|Jb h rfl rfl<|Jo h rfl rfl (S 7 (x2).toNatClampNeg) fun i0=>JB h rfl (Jd h rfl rfl<|Jg h rfl<|Jb h rfl rfl<|JF h rfl rfl i0 (S 5 (x2).toNatClampNeg)<|Je h rfl [.ref 0,.int x1,.int x2,.int x3,.int (S 5 (x2).toNatClampNeg)]<|Jb h rfl rfl<|JB h rfl (Jc h rfl k_m2<|Ji h rfl) (Jb h rfl rfl<|Jc h rfl k_32<|JK h rfl (Jd h rfl rfl<|Jg h rfl<|Jb h rfl rfl<|Jo h rfl rfl (S 3 ((S 5 (x2).toNatClampNeg)).toNatClampNeg) fun i1=>Jc h rfl k_16<|Jp h rfl (Jb h rfl rfl<|Ji h rfl) (Jb h rfl rfl<|Je h rfl [.ref 0,.int x1,.int (S 5 (x2).toNatClampNeg),.int x3,.int (S 5 (x2).toNatClampNeg)]<|Jn h rfl k_1 rfl [.ref 0,.int x1,.int (S 5 (x2).toNatClampNeg),.int (x3+1),.int (S 5 (x2).toNatClampNeg)]<|Jh h rfl<|Jr h rfl rfl)) (Jc h rfl k_m2<|Ji h rfl))) (Jd h rfl rfl<|Jg h rfl<|Jb h rfl rfl<|JF h rfl rfl i0 (S 7 (x2).toNatClampNeg)<|Ji h rfl)) (Jc h rfl k_m2<|Ji h rfl)) (Jc h rfl k_m2<|Ji h rfl)))
theorem e1_55_0{f1}(h:Fx f1)(x1:Int32)(S):f1 (55,0,[.ref 0,.int x1],[],S)=if inb x1 32=true then if (S 10 (x1).toNatClampNeg)<0 then some (none,S) else if (S 10 (x1).toNatClampNeg)<(S 0 6) then if (S 10 (x1).toNatClampNeg)<1024 then if (S 3 (x1).toNatClampNeg)=2 then if inb (S 10 (x1).toNatClampNeg) 1024=true then some (none,(upd S 21 ((S 10 (x1).toNatClampNeg)).toNatClampNeg (S 11 (x1).toNatClampNeg))) else none else if (S 8 (x1).toNatClampNeg)<0 then if (S 3 (x1).toNatClampNeg)=16 then f1 (55,85,[.ref 0,.int x1,.int (S 10 (x1).toNatClampNeg),.int (S 11 (x1).toNatClampNeg),.int x1],[],S) else f1 (55,85,[.ref 0,.int x1,.int (S 10 (x1).toNatClampNeg),.int (S 11 (x1).toNatClampNeg),.int (S 11 (x1).toNatClampNeg)],[],S) else f1 (55,85,[.ref 0,.int x1,.int (S 10 (x1).toNatClampNeg),.int (S 11 (x1).toNatClampNeg),.int (S 8 (x1).toNatClampNeg)],[],S) else some (none,S) else some (none,S) else none:=Jd h rfl rfl<|Jg h rfl<|Jb h rfl rfl<|Jo h rfl rfl (S 10 (x1).toNatClampNeg) fun i0=>Je h rfl [.ref 0,.int x1,.int (S 10 (x1).toNatClampNeg)]<|Jb h rfl rfl<|JB h rfl (Jk h rfl) (Jb h rfl rfl<|Jd h rfl rfl<|Jj h rfl (S 0 6)<|Jm h rfl (Jb h rfl rfl<|Jc h rfl k_1024<|JK h rfl (Jd h rfl rfl<|Jg h rfl<|Jb h rfl rfl<|JF h rfl rfl i0 (S 11 (x1).toNatClampNeg)<|Je h rfl [.ref 0,.int x1,.int (S 10 (x1).toNatClampNeg),.int (S 11 (x1).toNatClampNeg)]<|Jd h rfl rfl<|Jg h rfl<|Jb h rfl rfl<|JF h rfl rfl i0 (S 3 (x1).toNatClampNeg)<|Jc h rfl k_2<|Jp h rfl (Jd h rfl rfl<|Jg h rfl<|Jb h rfl rfl<|Jb h rfl rfl<|Jv h rfl rfl (S 11 (x1).toNatClampNeg) fun i1=>Jk h rfl) (Jd h rfl rfl<|Jg h rfl<|Jb h rfl rfl<|JF h rfl rfl i0 (S 8 (x1).toNatClampNeg)<|Je h rfl [.ref 0,.int x1,.int (S 10 (x1).toNatClampNeg),.int (S 11 (x1).toNatClampNeg),.int (S 8 (x1).toNatClampNeg)]<|Jb h rfl rfl<|JQ h rfl (Jd h rfl rfl<|Jg h rfl<|Jb h rfl rfl<|JF h rfl rfl i0 (S 3 (x1).toNatClampNeg)<|Jc h rfl k_16<|Jp h rfl (Jb h rfl rfl<|Je h rfl [.ref 0,.int x1,.int (S 10 (x1).toNatClampNeg),.int (S 11 (x1).toNatClampNeg),.int x1]<|Jh h rfl rfl) (Jb h rfl rfl<|Je h rfl [.ref 0,.int x1,.int (S 10 (x1).toNatClampNeg),.int (S 11 (x1).toNatClampNeg),.int (S 11 (x1).toNatClampNeg)] rfl)) rfl)) (Jk h rfl)) (Jk h rfl))
theorem e1_55_85{f1}(h:Fx f1)(x1 x2 x3 x4:Int32)(S):f1 (55,85,[.ref 0,.int x1,.int x2,.int x3,.int x4],[],S)=if inb x2 1024=true then some (none,(upd (upd S 21 (x2).toNatClampNeg x4) 22 (x2).toNatClampNeg x3)) else none:=Jd h rfl rfl<|Jg h rfl<|Jb h rfl rfl<|Jb h rfl rfl<|Jv h rfl rfl x4 fun i0=>Jd h rfl rfl<|Jg h rfl<|Jb h rfl rfl<|Jb h rfl rfl<|Jx h rfl rfl x3 i0<|Jk h rfl
theorem e1_57_0{f1}(h:Fx f1)(S):f1 (57,0,[.ref 0],[],S)=f1 (57,7,[.ref 0,.int ((S 0 4)-1)],[],S):=Jd h rfl rfl<|Jj h rfl (S 0 4)<|Jc h rfl k_1<|JG h rfl<|Je h rfl [.ref 0,.int ((S 0 4)-1)] rfl
theorem e1_57_7{f1}(h:Fx f1)(x1:Int32)(S):f1 (57,7,[.ref 0,.int x1],[],S)=if x1<0 then some (none,S) else if x1<32 then if inb x1 32=true then (f1 (56,0,[.ref 0,.int x1],[],S)).bind fun q=>f1 (57,36,[.ref 0,.int x1],q.1.toList++[.int (S 12 (x1).toNatClampNeg),.int x1,.ref 12],q.2) else none else f1 (57,7,[.ref 0,.int (x1+(-1))],[],S):=Jb h rfl rfl<|JB h rfl (Jk h rfl) (Jb h rfl rfl<|Jc h rfl k_32<|JK h rfl (Jd h rfl rfl<|Jg h rfl<|Jb h rfl rfl<|Jd h rfl rfl<|Jg h rfl<|Jb h rfl rfl<|Jo h rfl rfl (S 12 (x1).toNatClampNeg) fun i0=>Jd h rfl rfl<|Jb h rfl rfl<|Jf h rfl rfl) (Jh h rfl<|Jn h rfl k_m1 rfl [.ref 0,.int (x1+(-1))]<|Jh h rfl rfl))
theorem e1_57_36{f1}(h:Fx f1)(x1 y0 y1 y2:Int32)(S):f1 (57,36,[.ref 0,.int x1],[.int y0,.int y1,.int y2,.ref 12],S)=if inb y2 32=true then if inb x1 32=true then if (S 5 (x1).toNatClampNeg)<0 then f1 (57,7,[.ref 0,.int (x1+(-1))],[],(upd S 12 (y2).toNatClampNeg (y1|||y0))) else if (S 5 (x1).toNatClampNeg)<32 then if inb (S 5 (x1).toNatClampNeg) 32=true then f1 (57,7,[.ref 0,.int (x1+(-1))],[],(upd (upd S 12 (y2).toNatClampNeg (y1|||y0)) 12 ((S 5 (x1).toNatClampNeg)).toNatClampNeg (((upd S 12 (y2).toNatClampNeg (y1|||y0)) 12 ((S 5 (x1).toNatClampNeg)).toNatClampNeg)|||((upd S 12 (y2).toNatClampNeg (y1|||y0)) 12 (x1).toNatClampNeg)))) else none else f1 (57,7,[.ref 0,.int (x1+(-1))],[],(upd S 12 (y2).toNatClampNeg (y1|||y0))) else none else none:=JZ h rfl<|Jv h rfl rfl (y1|||y0) fun i0=>Jd h rfl rfl<|Jg h rfl<|Jb h rfl rfl<|Jo h rfl rfl (S 5 (x1).toNatClampNeg) fun i1=>Je h rfl [.ref 0,.int x1,.int (S 5 (x1).toNatClampNeg)]<|Jb h rfl rfl<|JB h rfl (Jr h rfl<|Jn h rfl k_m1 rfl [.ref 0,.int (x1+(-1))]<|Jh h rfl rfl) (Jb h rfl rfl<|Jc h rfl k_32<|Jm h rfl (Jd h rfl rfl<|Jg h rfl<|Jb h rfl rfl<|Jd h rfl rfl<|Jg h rfl<|Jb h rfl rfl<|Jo h rfl rfl ((upd S 12 (y2).toNatClampNeg (y1|||y0)) 12 ((S 5 (x1).toNatClampNeg)).toNatClampNeg) fun i2=>Jd h rfl rfl<|Jg h rfl<|Jb h rfl rfl<|JF h rfl rfl i1 ((upd S 12 (y2).toNatClampNeg (y1|||y0)) 12 (x1).toNatClampNeg)<|JZ h rfl<|Jx h rfl rfl (((upd S 12 (y2).toNatClampNeg (y1|||y0)) 12 ((S 5 (x1).toNatClampNeg)).toNatClampNeg)|||((upd S 12 (y2).toNatClampNeg (y1|||y0)) 12 (x1).toNatClampNeg)) i2<|Jr h rfl<|Jn h rfl k_m1 rfl [.ref 0,.int (x1+(-1))]<|Jh h rfl rfl) (Jr h rfl<|Jn h rfl k_m1 rfl [.ref 0,.int (x1+(-1))]<|Jh h rfl rfl))
theorem e1_56_0{f1}(h:Fx f1)(x1:Int32)(S):f1 (56,0,[.ref 0,.int x1],[],S)=if x1<0 then some (some (.int 0),S) else if x1<32 then if inb x1 32=true then if (S 3 (x1).toNatClampNeg)=2 then some (some (.int (1<<<(((S 4 (x1).toNatClampNeg)&&&7)&&&31))),S) else some (some (.int 0),S) else none else some (some (.int 0),S):=Jb h rfl rfl<|JB h rfl (Jc h rfl k_0<|Ji h rfl) (Jb h rfl rfl<|Jc h rfl k_32<|Jm h rfl (Jd h rfl rfl<|Jg h rfl<|Jb h rfl rfl<|Jo h rfl rfl (S 3 (x1).toNatClampNeg) fun i0=>Jc h rfl k_2<|JA h rfl (Jc h rfl k_1<|Jd h rfl rfl<|Jg h rfl<|Jb h rfl rfl<|JF h rfl rfl i0 (S 4 (x1).toNatClampNeg)<|Jc h rfl k_7<|Ju h rfl<|JJ h rfl<|Ji h rfl) (Jc h rfl k_0<|Ji h rfl)) (Jc h rfl k_0<|Ji h rfl))
theorem e1_58_0{f1}(h:Fx f1)(S):f1 (58,0,[.ref 0],[],S)=f1 (58,2,[.ref 0,.int 0],[],S):=Jc h rfl k_0<|Je h rfl [.ref 0,.int 0] rfl
theorem e1_58_2{f1}(h:Fx f1)(x1:Int32)(S):f1 (58,2,[.ref 0,.int x1],[],S)=if x1<(S 0 4) then if x1<32 then if inb x1 32=true then if (S 6 (x1).toNatClampNeg)<0 then f1 (58,61,[.ref 0,.int x1,.int (S 6 (x1).toNatClampNeg),.int (S 5 (x1).toNatClampNeg)],[],S) else if (S 6 (x1).toNatClampNeg)<32 then if inb (S 6 (x1).toNatClampNeg) 40=true then (f1 (56,0,[.ref 0,.int (S 6 (x1).toNatClampNeg)],[],S)).bind fun q=>f1 (58,56,[.ref 0,.int x1,.int (S 6 (x1).toNatClampNeg),.int (S 5 (x1).toNatClampNeg)],q.1.toList++[.int (S 15 ((S 6 (x1).toNatClampNeg)).toNatClampNeg),.int x1,.ref 15],q.2) else none else f1 (58,61,[.ref 0,.int x1,.int (S 6 (x1).toNatClampNeg),.int (S 5 (x1).toNatClampNeg)],[],S) else none else f1 (58,99,[.ref 0,.int x1],[],S) else f1 (58,99,[.ref 0,.int x1],[],S):=Jb h rfl rfl<|Jd h rfl rfl<|Jj h rfl (S 0 4)<|Jm h rfl (Jb h rfl rfl<|Jc h rfl k_32<|Jm h rfl (Jd h rfl rfl<|Jg h rfl<|Jb h rfl rfl<|Jo h rfl rfl (S 6 (x1).toNatClampNeg) fun i0=>Je h rfl [.ref 0,.int x1,.int (S 6 (x1).toNatClampNeg)]<|Jd h rfl rfl<|Jg h rfl<|Jb h rfl rfl<|JF h rfl rfl i0 (S 5 (x1).toNatClampNeg)<|Je h rfl [.ref 0,.int x1,.int (S 6 (x1).toNatClampNeg),.int (S 5 (x1).toNatClampNeg)]<|Jb h rfl rfl<|JB h rfl rfl (Jb h rfl rfl<|Jc h rfl k_32<|Jm h rfl (Jd h rfl rfl<|Jg h rfl<|Jb h rfl rfl<|Jd h rfl rfl<|Jg h rfl<|Jb h rfl rfl<|Jo h rfl rfl (S 15 ((S 6 (x1).toNatClampNeg)).toNatClampNeg) fun i1=>Jd h rfl rfl<|Jb h rfl rfl<|Jf h rfl rfl) rfl)) rfl) rfl
theorem e1_58_56{f1}(h:Fx f1)(x1 x2 x3 y0 y1 y2:Int32)(S):f1 (58,56,[.ref 0,.int x1,.int x2,.int x3],[.int y0,.int y1,.int y2,.ref 15],S)=if inb y2 40=true then f1 (58,2,[.ref 0,.int (x1+1)],[],(upd S 15 (y2).toNatClampNeg (y1|||y0))) else none:=JZ h rfl<|Jv h rfl rfl (y1|||y0) fun i0=>Jh h rfl<|Jn h rfl k_1 rfl [.ref 0,.int (x1+1),.int x2,.int x3]<|Jh h rfl<|Jr h rfl rfl
theorem e1_58_61{f1}(h:Fx f1)(x1 x2 x3:Int32)(S):f1 (58,61,[.ref 0,.int x1,.int x2,.int x3],[],S)=if x3<0 then if inb x1 40=true then f1 (58,2,[.ref 0,.int (x1+1)],[],(upd S 15 (x1).toNatClampNeg 0)) else none else if x3<32 then if inb x3 40=true then if inb x1 40=true then f1 (58,2,[.ref 0,.int (x1+1)],[],(upd S 15 (x1).toNatClampNeg (S 15 (x3).toNatClampNeg))) else none else none else if inb x1 40=true then f1 (58,2,[.ref 0,.int (x1+1)],[],(upd S 15 (x1).toNatClampNeg 0)) else none:=Jb h rfl rfl<|JB h rfl (Jd h rfl rfl<|Jg h rfl<|Jb h rfl rfl<|Jc h rfl k_0<|Jv h rfl rfl 0 fun i0=>Jn h rfl k_1 rfl [.ref 0,.int (x1+1),.int x2,.int x3]<|Jh h rfl<|Jr h rfl rfl) (Jb h rfl rfl<|Jc h rfl k_32<|Jm h rfl (Jd h rfl rfl<|Jg h rfl<|Jb h rfl rfl<|Jd h rfl rfl<|Jg h rfl<|Jb h rfl rfl<|Jo h rfl rfl (S 15 (x3).toNatClampNeg) fun i0=>Jv h rfl rfl (S 15 (x3).toNatClampNeg) fun i1=>Jh h rfl<|Jn h rfl k_1 rfl [.ref 0,.int (x1+1),.int x2,.int x3]<|Jh h rfl<|Jr h rfl rfl) (Jd h rfl rfl<|Jg h rfl<|Jb h rfl rfl<|Jc h rfl k_0<|Jv h rfl rfl 0 fun i0=>Jn h rfl k_1 rfl [.ref 0,.int (x1+1),.int x2,.int x3]<|Jh h rfl<|Jr h rfl rfl))
theorem e1_58_99{f1}(h:Fx f1)(x1:Int32)(S):f1 (58,99,[.ref 0,.int x1],[],S)=if (S 0 5)<0 then f1 (58,136,[.ref 0,.int 0],[],S) else if (S 0 5)<32 then if inb (S 0 5) 40=true then (f1 (56,0,[.ref 0,.int (S 0 5)],[],S)).bind fun q=>f1 (58,134,[.ref 0,.int 0],q.1.toList++[.int (S 15 ((S 0 5)).toNatClampNeg)],q.2) else none else f1 (58,136,[.ref 0,.int 0],[],S):=Jc h rfl k_0<|Je h rfl [.ref 0,.int 0]<|Jd h rfl rfl<|Jj h rfl (S 0 5)<|JB h rfl rfl (Jd h rfl rfl<|Jj h rfl (S 0 5)<|Jc h rfl k_32<|Jm h rfl (Jd h rfl rfl<|Jg h rfl<|Jd h rfl rfl<|Jj h rfl (S 0 5)<|Jo h rfl rfl (S 15 ((S 0 5)).toNatClampNeg) fun i0=>Jd h rfl rfl<|Jd h rfl rfl<|Jj h rfl (S 0 5)<|Jf h rfl rfl) rfl)
theorem e1_58_134{f1}(h:Fx f1)(x1 y0 y1:Int32)(S):f1 (58,134,[.ref 0,.int x1],[.int y0,.int y1],S)=f1 (58,136,[.ref 0,.int (y1|||y0)],[],S):=JZ h rfl<|Je h rfl [.ref 0,.int (y1|||y0)] rfl
theorem e1_58_136{f1}(h:Fx f1)(x1:Int32)(S):f1 (58,136,[.ref 0,.int x1],[],S)=if (S 0 4)<0 then some (none,S) else if (S 0 4)<40 then if inb (S 0 4) 40=true then some (none,(upd S 15 ((S 0 4)).toNatClampNeg x1)) else none else some (none,S):=Jd h rfl rfl<|Jj h rfl (S 0 4)<|JB h rfl (Jk h rfl) (Jd h rfl rfl<|Jj h rfl (S 0 4)<|Jc h rfl k_40<|Jm h rfl (Jd h rfl rfl<|Jg h rfl<|Jd h rfl rfl<|Jj h rfl (S 0 4)<|Jb h rfl rfl<|Jv h rfl rfl x1 fun i0=>Jk h rfl) (Jk h rfl))
theorem e1_59_0{f1}(h:Fx f1)(S):f1 (59,0,[.ref 0],[],S)=f1 (59,2,[.ref 0,.int 0],[],S):=Jc h rfl k_0<|Je h rfl [.ref 0,.int 0] rfl
theorem e1_59_2{f1}(h:Fx f1)(x1:Int32)(S):f1 (59,2,[.ref 0,.int x1],[],S)=if (S 0 4)<x1 then some (none,S) else if x1<40 then f1 (59,18,[.ref 0,.int x1,.int 0],[],S) else some (none,S):=Jb h rfl rfl<|Jd h rfl rfl<|Jj h rfl (S 0 4)<|JU h rfl (Jk h rfl) (Jb h rfl rfl<|Jc h rfl k_40<|Jm h rfl (Jc h rfl k_0<|Je h rfl [.ref 0,.int x1,.int 0] rfl) (Jk h rfl))
theorem e1_59_18{f1}(h:Fx f1)(x1 x2:Int32)(S):f1 (59,18,[.ref 0,.int x1,.int x2],[],S)=if x2<8 then (f1 (60,0,[.ref 0,.int x1,.int x2],[],S)).bind fun q=>f1 (59,30,[.ref 0,.int x1,.int x2],q.1.toList++[],q.2) else f1 (59,2,[.ref 0,.int (x1+1)],[],S):=Jb h rfl rfl<|Jc h rfl k_8<|Jm h rfl (Jd h rfl rfl<|Jb h rfl rfl<|Jb h rfl rfl<|Jf h rfl rfl) (Jn h rfl k_1 rfl [.ref 0,.int (x1+1),.int x2]<|Jh h rfl<|Jr h rfl rfl)
theorem e1_59_30{f1}(h:Fx f1)(x1 x2:Int32)(S):f1 (59,30,[.ref 0,.int x1,.int x2],[],S)=f1 (59,18,[.ref 0,.int x1,.int (x2+1)],[],S):=Jn h rfl k_1 rfl [.ref 0,.int x1,.int (x2+1)]<|Jh h rfl rfl
theorem e1_60_0{f1}(h:Fx f1)(x1 x2:Int32)(S):f1 (60,0,[.ref 0,.int x1,.int x2],[],S)=if ((x1*8)+x2)<0 then some (none,S) else if ((x1*8)+x2)<320 then if x1<40 then if inb ((x1*8)+x2) 320=true then if inb x1 40=true then if (((S 15 (x1).toNatClampNeg)>>>(x2&&&31))&&&1)=0 then some (none,(upd (upd S 17 (((x1*8)+x2)).toNatClampNeg 0) 18 (((x1*8)+x2)).toNatClampNeg 0)) else if x1<(S 0 4) then if x1<32 then if inb x1 32=true then if (S 3 (x1).toNatClampNeg)=16 then f1 (60,97,[.ref 0,.int x1,.int x2,.int ((x1*8)+x2)],[.int 1],(upd (upd (upd (upd S 17 (((x1*8)+x2)).toNatClampNeg 0) 18 (((x1*8)+x2)).toNatClampNeg 0) 17 (((x1*8)+x2)).toNatClampNeg 1) 18 (((x1*8)+x2)).toNatClampNeg x2)) else f1 (60,96,[.ref 0,.int x1,.int x2,.int ((x1*8)+x2)],[],(upd (upd (upd (upd S 17 (((x1*8)+x2)).toNatClampNeg 0) 18 (((x1*8)+x2)).toNatClampNeg 0) 17 (((x1*8)+x2)).toNatClampNeg 1) 18 (((x1*8)+x2)).toNatClampNeg x2)) else none else f1 (60,96,[.ref 0,.int x1,.int x2,.int ((x1*8)+x2)],[],(upd (upd (upd (upd S 17 (((x1*8)+x2)).toNatClampNeg 0) 18 (((x1*8)+x2)).toNatClampNeg 0) 17 (((x1*8)+x2)).toNatClampNeg 1) 18 (((x1*8)+x2)).toNatClampNeg x2)) else f1 (60,96,[.ref 0,.int x1,.int x2,.int ((x1*8)+x2)],[],(upd (upd (upd (upd S 17 (((x1*8)+x2)).toNatClampNeg 0) 18 (((x1*8)+x2)).toNatClampNeg 0) 17 (((x1*8)+x2)).toNatClampNeg 1) 18 (((x1*8)+x2)).toNatClampNeg x2)) else none else none else some (none,S) else some (none,S):=Jb h rfl rfl<|Jc h rfl k_8<|Jz h rfl<|Jb h rfl rfl<|Jt h rfl<|Je h rfl [.ref 0,.int x1,.int x2,.int ((x1*8)+x2)]<|Jb h rfl rfl<|JB h rfl (Jk h rfl) (Jb h rfl rfl<|Jc h rfl k_320<|Jm h rfl (Jb h rfl rfl<|Jc h rfl k_40<|JK h rfl (Jd h rfl rfl<|Jg h rfl<|Jb h rfl rfl<|Jc h rfl k_0<|Jv h rfl rfl 0 fun i0=>Jd h rfl rfl<|Jg h rfl<|Jb h rfl rfl<|Jc h rfl k_0<|Jx h rfl rfl 0 i0<|Jd h rfl rfl<|Jg h rfl<|Jb h rfl rfl<|Jo h rfl rfl (S 15 (x1).toNatClampNeg) fun i1=>Jb h rfl rfl<|JW h rfl<|Jc h rfl k_1<|Ju h rfl<|Js h rfl (Jk h rfl) (Jd h rfl rfl<|Jg h rfl<|Jb h rfl rfl<|Jc h rfl k_1<|Jx h rfl rfl 1 i0<|Jd h rfl rfl<|Jg h rfl<|Jb h rfl rfl<|Jb h rfl rfl<|Jx h rfl rfl x2 i0<|Jb h rfl rfl<|Jd h rfl rfl<|Jj h rfl (S 0 4)<|Jm h rfl (Jb h rfl rfl<|Jc h rfl k_32<|Jm h rfl (Jd h rfl rfl<|Jg h rfl<|Jb h rfl rfl<|Jo h rfl rfl (S 3 (x1).toNatClampNeg) fun i2=>Jc h rfl k_16<|Jp h rfl (Jc h rfl k_1<|Jh h rfl rfl) rfl) rfl) rfl)) (Jk h rfl)) (Jk h rfl))
theorem e1_60_96{f1}(h:Fx f1)(x1 x2 x3:Int32)(S):f1 (60,96,[.ref 0,.int x1,.int x2,.int x3],[],S)=f1 (60,97,[.ref 0,.int x1,.int x2,.int x3],[.int 0],S):=Jc h rfl k_0 rfl
theorem e1_60_97{f1}(h:Fx f1)(x1 x2 x3 y0:Int32)(S):f1 (60,97,[.ref 0,.int x1,.int x2,.int x3],[.int y0],S)=if y0=0 then f1 (60,118,[.ref 0,.int x1,.int x2,.int x3,.int y0],[],S) else if inb x1 32=true then if (((S 12 (x1).toNatClampNeg)>>>(x2&&&31))&&&1)=0 then f1 (60,118,[.ref 0,.int x1,.int x2,.int x3,.int y0],[],S) else some (none,S) else none:=Je h rfl [.ref 0,.int x1,.int x2,.int x3,.int y0]<|Jb h rfl rfl<|Jy h rfl rfl (Jd h rfl rfl<|Jg h rfl<|Jb h rfl rfl<|Jo h rfl rfl (S 12 (x1).toNatClampNeg) fun i0=>Jb h rfl rfl<|JW h rfl<|Jc h rfl k_1<|Ju h rfl<|Jy h rfl rfl (Jk h rfl))
theorem e1_60_118{f1}(h:Fx f1)(x1 x2 x3 x4:Int32)(S):f1 (60,118,[.ref 0,.int x1,.int x2,.int x3,.int x4],[],S)=if x1<(S 0 4) then if x1<32 then if inb x1 32=true then f1 (60,152,[.ref 0,.int x1,.int x2,.int x3,.int x4,.int (S 6 (x1).toNatClampNeg),.int 1,.int 0],[],S) else none else f1 (60,152,[.ref 0,.int x1,.int x2,.int x3,.int x4,.int (S 0 5),.int 1,.int 0],[],S) else f1 (60,152,[.ref 0,.int x1,.int x2,.int x3,.int x4,.int (S 0 5),.int 1,.int 0],[],S):=Jd h rfl rfl<|Jj h rfl (S 0 5)<|Je h rfl [.ref 0,.int x1,.int x2,.int x3,.int x4,.int (S 0 5)]<|Jb h rfl rfl<|Jd h rfl rfl<|Jj h rfl (S 0 4)<|Jm h rfl (Jb h rfl rfl<|Jc h rfl k_32<|Jm h rfl (Jd h rfl rfl<|Jg h rfl<|Jb h rfl rfl<|Jo h rfl rfl (S 6 (x1).toNatClampNeg) fun i0=>Je h rfl [.ref 0,.int x1,.int x2,.int x3,.int x4,.int (S 6 (x1).toNatClampNeg)]<|Jc h rfl k_1<|Je h rfl [.ref 0,.int x1,.int x2,.int x3,.int x4,.int (S 6 (x1).toNatClampNeg),.int 1]<|Jc h rfl k_0<|Je h rfl [.ref 0,.int x1,.int x2,.int x3,.int x4,.int (S 6 (x1).toNatClampNeg),.int 1,.int 0] rfl) (Jc h rfl k_1<|Je h rfl [.ref 0,.int x1,.int x2,.int x3,.int x4,.int (S 0 5),.int 1]<|Jc h rfl k_0<|Je h rfl [.ref 0,.int x1,.int x2,.int x3,.int x4,.int (S 0 5),.int 1,.int 0] rfl)) (Jc h rfl k_1<|Je h rfl [.ref 0,.int x1,.int x2,.int x3,.int x4,.int (S 0 5),.int 1]<|Jc h rfl k_0<|Je h rfl [.ref 0,.int x1,.int x2,.int x3,.int x4,.int (S 0 5),.int 1,.int 0] rfl)
theorem e1_60_152{f1}(h:Fx f1)(x1 x2 x3 x4 x5 x6 x7:Int32)(S):f1 (60,152,[.ref 0,.int x1,.int x2,.int x3,.int x4,.int x5,.int x6,.int x7],[],S)=if 32<x7 then some (none,S) else if x5<0 then some (none,S) else if x5<(S 0 4) then if x5<32 then if inb x5 32=true then if (S 3 (x5).toNatClampNeg)=2 then if (S 4 (x5).toNatClampNeg)=x2 then if x6=0 then (f1 (61,0,[.ref 0,.int x3,.int x5,.int 0],[],S)).bind fun q=>f1 (60,224,[.ref 0,.int x1,.int x2,.int x3,.int x4,.int x5,.int x6,.int x7],q.1.toList++[],q.2) else if x4=0 then (f1 (61,0,[.ref 0,.int x3,.int x5,.int 1],[],S)).bind fun q=>f1 (60,224,[.ref 0,.int x1,.int x2,.int x3,.int x4,.int x5,.int x6,.int x7],q.1.toList++[],q.2) else (f1 (61,0,[.ref 0,.int x3,.int x5,.int 0],[],S)).bind fun q=>f1 (60,224,[.ref 0,.int x1,.int x2,.int x3,.int x4,.int x5,.int x6,.int x7],q.1.toList++[],q.2) else f1 (60,225,[.ref 0,.int x1,.int x2,.int x3,.int x4,.int x5,.int x6,.int x7],[],S) else f1 (60,225,[.ref 0,.int x1,.int x2,.int x3,.int x4,.int x5,.int x6,.int x7],[],S) else none else some (none,S) else some (none,S):=Jb h rfl rfl<|Jc h rfl k_32<|JU h rfl (Jk h rfl) (Jb h rfl rfl<|JB h rfl (Jk h rfl) (Jb h rfl rfl<|Jd h rfl rfl<|Jj h rfl (S 0 4)<|Jm h rfl (Jb h rfl rfl<|Jc h rfl k_32<|Jm h rfl (Jd h rfl rfl<|Jg h rfl<|Jb h rfl rfl<|Jo h rfl rfl (S 3 (x5).toNatClampNeg) fun i0=>Jc h rfl k_2<|Jp h rfl (Jd h rfl rfl<|Jg h rfl<|Jb h rfl rfl<|JF h rfl rfl i0 (S 4 (x5).toNatClampNeg)<|Jb h rfl rfl<|Jp h rfl (Jd h rfl rfl<|Jb h rfl rfl<|Jb h rfl rfl<|Jb h rfl rfl<|Jy h rfl (Jc h rfl k_0<|Jf h rfl rfl) (Jb h rfl rfl<|Js h rfl (Jc h rfl k_1<|Jh h rfl<|Jf h rfl rfl) (Jc h rfl k_0<|Jf h rfl rfl))) rfl) rfl) (Jk h rfl)) (Jk h rfl)))
theorem e1_60_224{f1}(h:Fx f1)(x1 x2 x3 x4 x5 x6 x7:Int32)(S):f1 (60,224,[.ref 0,.int x1,.int x2,.int x3,.int x4,.int x5,.int x6,.int x7],[],S)=some (none,S):=Jk h rfl
theorem e1_60_225{f1}(h:Fx f1)(x1 x2 x3 x4 x5 x6 x7:Int32)(S):f1 (60,225,[.ref 0,.int x1,.int x2,.int x3,.int x4,.int x5,.int x6,.int x7],[],S)=if inb x5 32=true then if (((S 12 (x5).toNatClampNeg)>>>(x2&&&31))&&&1)=0 then f1 (60,152,[.ref 0,.int x1,.int x2,.int x3,.int x4,.int (S 6 (x5).toNatClampNeg),.int 0,.int (x7+1)],[],S) else some (none,S) else none:=Jd h rfl rfl<|Jg h rfl<|Jb h rfl rfl<|Jo h rfl rfl (S 12 (x5).toNatClampNeg) fun i0=>Jb h rfl rfl<|JW h rfl<|Jc h rfl k_1<|Ju h rfl<|Jy h rfl (Jc h rfl k_0<|Je h rfl [.ref 0,.int x1,.int x2,.int x3,.int x4,.int x5,.int 0,.int x7]<|Jd h rfl rfl<|Jg h rfl<|Jb h rfl rfl<|JF h rfl rfl i0 (S 6 (x5).toNatClampNeg)<|Je h rfl [.ref 0,.int x1,.int x2,.int x3,.int x4,.int (S 6 (x5).toNatClampNeg),.int 0,.int x7]<|Jn h rfl k_1 rfl [.ref 0,.int x1,.int x2,.int x3,.int x4,.int (S 6 (x5).toNatClampNeg),.int 0,.int (x7+1)]<|Jh h rfl rfl) (Jk h rfl)
theorem e1_61_0{f1}(h:Fx f1)(x1 x2 x3:Int32)(S):f1 (61,0,[.ref 0,.int x1,.int x2,.int x3],[],S)=if inb x2 32=true then if (S 13 (x2).toNatClampNeg)=2 then if inb x1 320=true then some (none,(upd (upd S 17 (x1).toNatClampNeg 2) 18 (x1).toNatClampNeg (S 14 (x2).toNatClampNeg))) else none else if x3=0 then some (none,S) else if (S 13 (x2).toNatClampNeg)=3 then if inb x1 320=true then some (none,(upd (upd S 17 (x1).toNatClampNeg 3) 18 (x1).toNatClampNeg (S 14 (x2).toNatClampNeg))) else none else some (none,S) else none:=Jd h rfl rfl<|Jg h rfl<|Jb h rfl rfl<|Jo h rfl rfl (S 13 (x2).toNatClampNeg) fun i0=>Jc h rfl k_2<|Jp h rfl (Jd h rfl rfl<|Jg h rfl<|Jb h rfl rfl<|Jc h rfl k_2<|Jv h rfl rfl 2 fun i1=>Jd h rfl rfl<|Jg h rfl<|Jb h rfl rfl<|Jd h rfl rfl<|Jg h rfl<|Jb h rfl rfl<|JF h rfl rfl i0 (S 14 (x2).toNatClampNeg)<|Jx h rfl rfl (S 14 (x2).toNatClampNeg) i1<|Jk h rfl) (Jb h rfl rfl<|Jy h rfl (Jk h rfl) (Jd h rfl rfl<|Jg h rfl<|Jb h rfl rfl<|JF h rfl rfl i0 (S 13 (x2).toNatClampNeg)<|Jc h rfl k_3<|Jp h rfl (Jd h rfl rfl<|Jg h rfl<|Jb h rfl rfl<|Jc h rfl k_3<|Jv h rfl rfl 3 fun i1=>Jd h rfl rfl<|Jg h rfl<|Jb h rfl rfl<|Jd h rfl rfl<|Jg h rfl<|Jb h rfl rfl<|JF h rfl rfl i0 (S 14 (x2).toNatClampNeg)<|Jx h rfl rfl (S 14 (x2).toNatClampNeg) i1<|Jk h rfl) (Jk h rfl)))
theorem e1_19_0{f1}(h:Fx f1)(S):f1 (19,0,[.ref 0],[],S)=f1 (19,2,[.ref 0,.int 0],[],S):=Jc h rfl k_0<|Je h rfl [.ref 0,.int 0] rfl
theorem e1_19_2{f1}(h:Fx f1)(x1:Int32)(S):f1 (19,2,[.ref 0,.int x1],[],S)=if x1<128 then if inb x1 128=true then f1 (19,2,[.ref 0,.int (x1+1)],[],(upd S 23 (x1).toNatClampNeg 0)) else none else f1 (19,24,[.ref 0,.int 0],[],S):=Jb h rfl rfl<|Jc h rfl k_128<|Jm h rfl (Jd h rfl rfl<|Jg h rfl<|Jb h rfl rfl<|Jc h rfl k_0<|Jv h rfl rfl 0 fun i0=>Jn h rfl k_1 rfl [.ref 0,.int (x1+1)]<|Jh h rfl rfl) (Jc h rfl k_0<|Je h rfl [.ref 0,.int 0] rfl)
theorem e1_19_24{f1}(h:Fx f1)(x1:Int32)(S):f1 (19,24,[.ref 0,.int x1],[],S)=if x1<8 then if inb x1 8=true then f1 (19,24,[.ref 0,.int (x1+1)],[],(upd S 24 (x1).toNatClampNeg 0)) else none else if 0<(S 0 4) then some (none,(upd (upd (upd (upd S 0 8 0) 0 9 (-1)) 0 10 0) 0 7 0)) else some (none,(upd (upd (upd (upd S 0 8 0) 0 9 (-1)) 0 10 0) 0 7 (-2))):=Jb h rfl rfl<|Jc h rfl k_8<|Jm h rfl (Jd h rfl rfl<|Jg h rfl<|Jb h rfl rfl<|Jc h rfl k_0<|Jv h rfl rfl 0 fun i0=>Jn h rfl k_1 rfl [.ref 0,.int (x1+1)]<|Jh h rfl rfl) (Jd h rfl rfl<|Jc h rfl k_0<|Jw h rfl<|Jd h rfl rfl<|Jc h rfl k_m1<|Jw h rfl<|Jd h rfl rfl<|Jc h rfl k_0<|Jw h rfl<|Jd h rfl rfl<|Jj h rfl (S 0 4)<|Jac h rfl (Jd h rfl rfl<|Jc h rfl k_0<|Jw h rfl<|Jh h rfl<|Jk h rfl) (Jd h rfl rfl<|Jc h rfl k_m2<|Jw h rfl<|Jk h rfl))
theorem e1_6_0{f1}(h:Fx f1)(S):f1 (6,0,[.ref 0],[],S)=if (S 0 1)=0 then some (some (.int 0),S) else some (some (.int (S 0 4)),S):=Jd h rfl rfl<|Jj h rfl (S 0 1)<|Js h rfl (Jc h rfl k_0<|Ji h rfl) (Jd h rfl rfl<|Jj h rfl (S 0 4)<|Ji h rfl)
theorem e1_13_0{f1}(h:Fx f1)(x1:Int32)(S):f1 (13,0,[.ref 0,.int x1],[],S)=if (S 0 1)=0 then some (some (.int 0),S) else if x1<0 then some (some (.int 0),S) else if x1<8 then (f1 (21,0,[.ref 0],[],S)).bind fun q=>f1 (13,23,[.ref 0,.int x1],q.1.toList++[],q.2) else some (some (.int 0),S):=Jd h rfl rfl<|Jj h rfl (S 0 1)<|Jy h rfl (Jc h rfl k_0<|Jl h rfl) (Jb h rfl rfl<|JB h rfl (Jc h rfl k_0<|Jl h rfl) (Jb h rfl rfl<|Jc h rfl k_8<|JK h rfl (Jd h rfl rfl<|Jf h rfl rfl) (Jc h rfl k_0<|Jl h rfl)))
theorem e1_13_23{f1}(h:Fx f1)(x1 y0:Int32)(S):f1 (13,23,[.ref 0,.int x1],[.int y0],S)=if y0<0 then some (some (.int 0),S) else if y0<40 then if inb y0 40=true then if (((S 15 (y0).toNatClampNeg)>>>(x1&&&31))&&&1)=0 then some (some (.int 0),S) else some (some (.int 1),S) else none else some (some (.int 0),S):=Je h rfl [.ref 0,.int x1,.int y0]<|Jb h rfl rfl<|JB h rfl (Jc h rfl k_0<|Jl h rfl) (Jb h rfl rfl<|Jc h rfl k_40<|JK h rfl (Jd h rfl rfl<|Jg h rfl<|Jb h rfl rfl<|Jo h rfl rfl (S 15 (y0).toNatClampNeg) fun i0=>Jb h rfl rfl<|JW h rfl<|Jc h rfl k_1<|Ju h rfl<|Jy h rfl (Jc h rfl k_0<|Jl h rfl) (Jc h rfl k_1<|Jh h rfl<|JC h rfl)) (Jc h rfl k_0<|Jl h rfl))
theorem e1_21_0{f1}(h:Fx f1)(S):f1 (21,0,[.ref 0],[],S)=if (S 0 7)<0 then some (some (.int (S 0 4)),S) else if (S 0 7)<(S 0 4) then some (some (.int (S 0 7)),S) else some (some (.int (S 0 4)),S):=Jd h rfl rfl<|Jj h rfl (S 0 7)<|JB h rfl (Jd h rfl rfl<|Jj h rfl (S 0 4)<|Ji h rfl) (Jd h rfl rfl<|Jj h rfl (S 0 7)<|Jd h rfl rfl<|Jj h rfl (S 0 4)<|Jm h rfl (Jd h rfl rfl<|Jj h rfl (S 0 7)<|Ji h rfl) (Jd h rfl rfl<|Jj h rfl (S 0 4)<|Ji h rfl))
theorem e1_14_0{f1}(h:Fx f1)(x1:Int32)(S):f1 (14,0,[.ref 0,.int x1],[],S)=(f1 (13,0,[.ref 0,.int x1],[],S)).bind fun q=>f1 (14,5,[.ref 0,.int x1],q.1.toList++[],q.2):=Jd h rfl rfl<|Jb h rfl rfl<|Jf h rfl rfl
theorem e1_14_5{f1}(h:Fx f1)(x1 y0:Int32)(S):f1 (14,5,[.ref 0,.int x1],[.int y0],S)=if y0=0 then some (some (.int 0),S) else (f1 (21,0,[.ref 0],[],S)).bind fun q=>f1 (14,14,[.ref 0,.int x1],q.1.toList++[],q.2):=Js h rfl (Jc h rfl k_0<|Ji h rfl) (Jd h rfl rfl<|Jf h rfl rfl)
theorem e1_14_14{f1}(h:Fx f1)(x1 y0:Int32)(S):f1 (14,14,[.ref 0,.int x1],[.int y0],S)=if ((y0*8)+x1)<0 then some (some (.int 0),S) else if ((y0*8)+x1)<320 then if inb ((y0*8)+x1) 320=true then (f1 (62,0,[.ref 0,.int (S 17 (((y0*8)+x1)).toNatClampNeg),.int (S 18 (((y0*8)+x1)).toNatClampNeg)],[],S)).bind fun q=>f1 (14,49,[.ref 0,.int x1,.int ((y0*8)+x1)],q.1.toList++[],q.2) else none else some (some (.int 0),S):=Jc h rfl k_8<|Jz h rfl<|Jb h rfl rfl<|Jt h rfl<|Je h rfl [.ref 0,.int x1,.int ((y0*8)+x1)]<|Jb h rfl rfl<|JB h rfl (Jc h rfl k_0<|Ji h rfl) (Jb h rfl rfl<|Jc h rfl k_320<|JK h rfl (Jd h rfl rfl<|Jd h rfl rfl<|Jg h rfl<|Jb h rfl rfl<|Jo h rfl rfl (S 17 (((y0*8)+x1)).toNatClampNeg) fun i0=>Jd h rfl rfl<|Jg h rfl<|Jb h rfl rfl<|JF h rfl rfl i0 (S 18 (((y0*8)+x1)).toNatClampNeg)<|Jf h rfl rfl) (Jc h rfl k_0<|Ji h rfl))
theorem e1_14_49{f1}(h:Fx f1)(x1 x2 y0:Int32)(S):f1 (14,49,[.ref 0,.int x1,.int x2],[.int y0],S)=some (some (.int y0),S):=Ji h rfl
theorem e1_11_0{f1}(h:Fx f1)(S):f1 (11,0,[.ref 0],[],S)=if (S 0 1)=0 then some (some (.int (-1)),S) else some (some (.int (S 0 7)),S):=Jd h rfl rfl<|Jj h rfl (S 0 1)<|Js h rfl (Jc h rfl k_m1<|Ji h rfl) (Jd h rfl rfl<|Jj h rfl (S 0 7)<|Ji h rfl)
theorem e1_8_0{f1}(h:Fx f1)(S):f1 (8,0,[.ref 0],[],S)=if (S 0 1)=0 then some (some (.int (-1)),S) else if (S 0 7)=(-2) then some (some (.int (-2)),S) else (f1 (63,0,[.ref 0],[],S)).bind fun q=>f1 (8,25,[.ref 0],q.1.toList++[],q.2):=Jd h rfl rfl<|Jj h rfl (S 0 1)<|Js h rfl (Jc h rfl k_m1<|Ji h rfl) (Jd h rfl rfl<|Jj h rfl (S 0 7)<|Jc h rfl k_m2<|Jp h rfl (Jc h rfl k_m2<|Ji h rfl) (Jd h rfl rfl<|Jf h rfl rfl))
theorem e1_8_25{f1}(h:Fx f1)(S):f1 (8,25,[.ref 0],[],S)=some (some (.int (S 0 7)),S):=Jd h rfl rfl<|Jj h rfl (S 0 7)<|Ji h rfl
theorem e1_63_0{f1}(h:Fx f1)(S):f1 (63,0,[.ref 0],[],S)=(f1 (64,0,[.ref 0,.int (S 0 7)],[],S)).bind fun q=>f1 (63,8,[.ref 0],q.1.toList++[],q.2):=Jd h rfl rfl<|Jd h rfl rfl<|Jj h rfl (S 0 7)<|Jf h rfl rfl
theorem e1_63_8{f1}(h:Fx f1)(y0:Int32)(S):f1 (63,8,[.ref 0],[.int y0],S)=some (none,(upd (upd S 0 7 y0) 0 8 ((S 0 8)+1))):=Je h rfl [.ref 0,.int y0]<|Jd h rfl rfl<|Jb h rfl rfl<|Jw h rfl<|Jd h rfl rfl<|JO h rfl<|Jj h rfl (S 0 8)<|Jc h rfl k_1<|Jt h rfl<|Jw h rfl<|Jk h rfl
theorem e1_64_0{f1}(h:Fx f1)(x1:Int32)(S):f1 (64,0,[.ref 0,.int x1],[],S)=if x1<0 then some (some (.int (-2)),S) else if x1<(S 0 4) then if x1<32 then if inb x1 32=true then f1 (64,30,[.ref 0,.int x1,.int (S 9 (x1).toNatClampNeg),.int 0],[],S) else none else some (some (.int (-2)),S) else some (some (.int (-2)),S):=Jb h rfl rfl<|JB h rfl (Jc h rfl k_m2<|Ji h rfl) (Jb h rfl rfl<|Jd h rfl rfl<|Jj h rfl (S 0 4)<|Jm h rfl (Jb h rfl rfl<|Jc h rfl k_32<|JK h rfl (Jd h rfl rfl<|Jg h rfl<|Jb h rfl rfl<|Jo h rfl rfl (S 9 (x1).toNatClampNeg) fun i0=>Je h rfl [.ref 0,.int x1,.int (S 9 (x1).toNatClampNeg)]<|Jc h rfl k_0<|Je h rfl [.ref 0,.int x1,.int (S 9 (x1).toNatClampNeg),.int 0] rfl) (Jc h rfl k_m2<|Ji h rfl)) (Jc h rfl k_m2<|Ji h rfl))
theorem e1_64_30{f1}(h:Fx f1)(x1 x2 x3:Int32)(S):f1 (64,30,[.ref 0,.int x1,.int x2,.int x3],[],S)=if x3<1024 then if x2<0 then some (some (.int (-2)),S) else if x2<(S 0 6) then if x2<1024 then if inb x2 1024=true then if (S 19 (x2).toNatClampNeg)=8 then some (some (.int (S 21 (x2).toNatClampNeg)),S) else if (S 19 (x2).toNatClampNeg)=9 then if inb ((S 20 (x2).toNatClampNeg)&&&7) 8=true then if (S 24 (((S 20 (x2).toNatClampNeg)&&&7)).toNatClampNeg)=0 then some (some (.int (S 22 (x2).toNatClampNeg)),S) else some (some (.int (S 21 (x2).toNatClampNeg)),S) else none else if (S 19 (x2).toNatClampNeg)=10 then if (S 20 (x2).toNatClampNeg)=0 then some (some (.int (S 22 (x2).toNatClampNeg)),S) else some (some (.int (S 21 (x2).toNatClampNeg)),S) else (f1 (65,0,[.ref 0,.int x2],[],S)).bind fun q=>f1 (64,154,[.ref 0,.int x1,.int x2,.int x3,.int (S 19 (x2).toNatClampNeg)],q.1.toList++[],q.2) else none else some (some (.int (-2)),S) else some (some (.int (-2)),S) else some (some (.int (-2)),S):=Jb h rfl rfl<|Jc h rfl k_1024<|Jm h rfl (Jb h rfl rfl<|JB h rfl (Jc h rfl k_m2<|Ji h rfl) (Jb h rfl rfl<|Jd h rfl rfl<|Jj h rfl (S 0 6)<|Jm h rfl (Jb h rfl rfl<|Jc h rfl k_1024<|JK h rfl (Jd h rfl rfl<|Jg h rfl<|Jb h rfl rfl<|Jo h rfl rfl (S 19 (x2).toNatClampNeg) fun i0=>Je h rfl [.ref 0,.int x1,.int x2,.int x3,.int (S 19 (x2).toNatClampNeg)]<|Jb h rfl rfl<|Jc h rfl k_8<|Jp h rfl (Jd h rfl rfl<|Jg h rfl<|Jb h rfl rfl<|JF h rfl rfl i0 (S 21 (x2).toNatClampNeg)<|Ji h rfl) (Jb h rfl rfl<|Jc h rfl k_9<|Jp h rfl (Jd h rfl rfl<|Jg h rfl<|Jd h rfl rfl<|Jg h rfl<|Jb h rfl rfl<|JF h rfl rfl i0 (S 20 (x2).toNatClampNeg)<|Jc h rfl k_7<|Ju h rfl<|Jo h rfl rfl (S 24 (((S 20 (x2).toNatClampNeg)&&&7)).toNatClampNeg) fun i1=>Jy h rfl (Jd h rfl rfl<|Jg h rfl<|Jb h rfl rfl<|JF h rfl rfl i0 (S 22 (x2).toNatClampNeg)<|Ji h rfl) (Jd h rfl rfl<|Jg h rfl<|Jb h rfl rfl<|JF h rfl rfl i0 (S 21 (x2).toNatClampNeg)<|Ji h rfl)) (Jb h rfl rfl<|Jc h rfl k_10<|Jp h rfl (Jd h rfl rfl<|Jg h rfl<|Jb h rfl rfl<|JF h rfl rfl i0 (S 20 (x2).toNatClampNeg)<|Jy h rfl (Jd h rfl rfl<|Jg h rfl<|Jb h rfl rfl<|JF h rfl rfl i0 (S 22 (x2).toNatClampNeg)<|Ji h rfl) (Jd h rfl rfl<|Jg h rfl<|Jb h rfl rfl<|JF h rfl rfl i0 (S 21 (x2).toNatClampNeg)<|Ji h rfl)) (Jd h rfl rfl<|Jb h rfl rfl<|Jf h rfl rfl)))) (Jc h rfl k_m2<|Ji h rfl)) (Jc h rfl k_m2<|Ji h rfl))) (Jc h rfl k_m2<|Ji h rfl)
theorem e1_64_154{f1}(h:Fx f1)(x1 x2 x3 x4:Int32)(S):f1 (64,154,[.ref 0,.int x1,.int x2,.int x3,.int x4],[],S)=f1 (64,30,[.ref 0,.int x1,.int (x2+1),.int (x3+1)],[],S):=Jn h rfl k_1 rfl [.ref 0,.int x1,.int (x2+1),.int x3,.int x4]<|Jn h rfl k_1 rfl [.ref 0,.int x1,.int (x2+1),.int (x3+1),.int x4]<|Jh h rfl<|Jr h rfl rfl
theorem e1_65_0{f1}(h:Fx f1)(x1:Int32)(S):f1 (65,0,[.ref 0,.int x1],[],S)=if inb x1 1024=true then if (S 19 (x1).toNatClampNeg)=1 then if inb ((S 20 (x1).toNatClampNeg)&&&7) 8=true then some (none,(upd S 24 (((S 20 (x1).toNatClampNeg)&&&7)).toNatClampNeg (S 21 (x1).toNatClampNeg))) else none else if (S 19 (x1).toNatClampNeg)=2 then (f1 (66,0,[.ref 0,.int (S 21 (x1).toNatClampNeg)],[],S)).bind fun q=>f1 (65,68,[.ref 0,.int x1,.int (S 19 (x1).toNatClampNeg),.int (S 20 (x1).toNatClampNeg),.int (S 21 (x1).toNatClampNeg),.int (S 22 (x1).toNatClampNeg)],q.1.toList++[.int ((S 20 (x1).toNatClampNeg)&&&7),.ref 24],q.2) else if (S 19 (x1).toNatClampNeg)=3 then if inb ((S 21 (x1).toNatClampNeg)&&&7) 8=true then (f1 (67,0,[.ref 0,.int (S 20 (x1).toNatClampNeg),.int (S 24 (((S 21 (x1).toNatClampNeg)&&&7)).toNatClampNeg)],[],S)).bind fun q=>f1 (65,92,[.ref 0,.int x1,.int (S 19 (x1).toNatClampNeg),.int (S 20 (x1).toNatClampNeg),.int (S 21 (x1).toNatClampNeg),.int (S 22 (x1).toNatClampNeg)],q.1.toList++[],q.2) else none else if (S 19 (x1).toNatClampNeg)=4 then (f1 (67,0,[.ref 0,.int (S 20 (x1).toNatClampNeg),.int (S 21 (x1).toNatClampNeg)],[],S)).bind fun q=>f1 (65,107,[.ref 0,.int x1,.int (S 19 (x1).toNatClampNeg),.int (S 20 (x1).toNatClampNeg),.int (S 21 (x1).toNatClampNeg),.int (S 22 (x1).toNatClampNeg)],q.1.toList++[],q.2) else if (S 19 (x1).toNatClampNeg)=5 then if inb ((S 20 (x1).toNatClampNeg)&&&7) 8=true then if inb ((S 21 (x1).toNatClampNeg)&&&7) 8=true then (f1 (68,0,[.ref 0,.int (S 22 (x1).toNatClampNeg),.int (S 24 (((S 20 (x1).toNatClampNeg)&&&7)).toNatClampNeg),.int (S 24 (((S 21 (x1).toNatClampNeg)&&&7)).toNatClampNeg)],[],S)).bind fun q=>f1 (65,156,[.ref 0,.int x1,.int (S 19 (x1).toNatClampNeg),.int (S 20 (x1).toNatClampNeg),.int (S 21 (x1).toNatClampNeg),.int (S 22 (x1).toNatClampNeg),.int (S 24 (((S 20 (x1).toNatClampNeg)&&&7)).toNatClampNeg),.int (S 24 (((S 21 (x1).toNatClampNeg)&&&7)).toNatClampNeg)],q.1.toList++[.int ((S 20 (x1).toNatClampNeg)&&&7),.ref 24],q.2) else none else none else if (S 19 (x1).toNatClampNeg)=6 then if inb ((S 20 (x1).toNatClampNeg)&&&7) 8=true then (f1 (68,0,[.ref 0,.int (S 22 (x1).toNatClampNeg),.int (S 24 (((S 20 (x1).toNatClampNeg)&&&7)).toNatClampNeg),.int (S 21 (x1).toNatClampNeg)],[],S)).bind fun q=>f1 (65,195,[.ref 0,.int x1,.int (S 19 (x1).toNatClampNeg),.int (S 20 (x1).toNatClampNeg),.int (S 21 (x1).toNatClampNeg),.int (S 22 (x1).toNatClampNeg),.int (S 24 (((S 20 (x1).toNatClampNeg)&&&7)).toNatClampNeg)],q.1.toList++[.int ((S 20 (x1).toNatClampNeg)&&&7),.ref 24],q.2) else none else if (S 19 (x1).toNatClampNeg)=7 then if inb ((S 20 (x1).toNatClampNeg)&&&7) 8=true then some (none,(upd S 24 (((S 20 (x1).toNatClampNeg)&&&7)).toNatClampNeg (0-(S 24 (((S 20 (x1).toNatClampNeg)&&&7)).toNatClampNeg)))) else none else some (none,S) else none:=Jd h rfl rfl<|Jg h rfl<|Jb h rfl rfl<|Jo h rfl rfl (S 19 (x1).toNatClampNeg) fun i0=>Je h rfl [.ref 0,.int x1,.int (S 19 (x1).toNatClampNeg)]<|Jd h rfl rfl<|Jg h rfl<|Jb h rfl rfl<|JF h rfl rfl i0 (S 20 (x1).toNatClampNeg)<|Je h rfl [.ref 0,.int x1,.int (S 19 (x1).toNatClampNeg),.int (S 20 (x1).toNatClampNeg)]<|Jd h rfl rfl<|Jg h rfl<|Jb h rfl rfl<|JF h rfl rfl i0 (S 21 (x1).toNatClampNeg)<|Je h rfl [.ref 0,.int x1,.int (S 19 (x1).toNatClampNeg),.int (S 20 (x1).toNatClampNeg),.int (S 21 (x1).toNatClampNeg)]<|Jd h rfl rfl<|Jg h rfl<|Jb h rfl rfl<|JF h rfl rfl i0 (S 22 (x1).toNatClampNeg)<|Je h rfl [.ref 0,.int x1,.int (S 19 (x1).toNatClampNeg),.int (S 20 (x1).toNatClampNeg),.int (S 21 (x1).toNatClampNeg),.int (S 22 (x1).toNatClampNeg)]<|Jb h rfl rfl<|Jc h rfl k_1<|Jp h rfl (Jd h rfl rfl<|Jg h rfl<|Jb h rfl rfl<|Jc h rfl k_7<|Ju h rfl<|Jb h rfl rfl<|Jv h rfl rfl (S 21 (x1).toNatClampNeg) fun i1=>Jh h rfl<|Jk h rfl) (Jb h rfl rfl<|Jc h rfl k_2<|Jp h rfl (Jd h rfl rfl<|Jg h rfl<|Jb h rfl rfl<|Jc h rfl k_7<|Ju h rfl<|Jd h rfl rfl<|Jb h rfl rfl<|Jf h rfl rfl) (Jb h rfl rfl<|Jc h rfl k_3<|Jp h rfl (Jd h rfl rfl<|Jb h rfl rfl<|Jd h rfl rfl<|Jg h rfl<|Jb h rfl rfl<|Jc h rfl k_7<|Ju h rfl<|Jo h rfl rfl (S 24 (((S 21 (x1).toNatClampNeg)&&&7)).toNatClampNeg) fun i1=>Jf h rfl rfl) (Jb h rfl rfl<|Jc h rfl k_4<|Jp h rfl (Jd h rfl rfl<|Jb h rfl rfl<|Jb h rfl rfl<|Jf h rfl rfl) (Jb h rfl rfl<|Jc h rfl k_5<|Jp h rfl (Jd h rfl rfl<|Jg h rfl<|Jb h rfl rfl<|Jc h rfl k_7<|Ju h rfl<|Jo h rfl rfl (S 24 (((S 20 (x1).toNatClampNeg)&&&7)).toNatClampNeg) fun i1=>Je h rfl [.ref 0,.int x1,.int (S 19 (x1).toNatClampNeg),.int (S 20 (x1).toNatClampNeg),.int (S 21 (x1).toNatClampNeg),.int (S 22 (x1).toNatClampNeg),.int (S 24 (((S 20 (x1).toNatClampNeg)&&&7)).toNatClampNeg)]<|Jd h rfl rfl<|Jg h rfl<|Jb h rfl rfl<|Jc h rfl k_7<|Ju h rfl<|Jo h rfl rfl (S 24 (((S 21 (x1).toNatClampNeg)&&&7)).toNatClampNeg) fun i2=>Je h rfl [.ref 0,.int x1,.int (S 19 (x1).toNatClampNeg),.int (S 20 (x1).toNatClampNeg),.int (S 21 (x1).toNatClampNeg),.int (S 22 (x1).toNatClampNeg),.int (S 24 (((S 20 (x1).toNatClampNeg)&&&7)).toNatClampNeg),.int (S 24 (((S 21 (x1).toNatClampNeg)&&&7)).toNatClampNeg)]<|Jd h rfl rfl<|Jg h rfl<|Jb h rfl rfl<|Jc h rfl k_7<|Ju h rfl<|Jd h rfl rfl<|Jb h rfl rfl<|Jb h rfl rfl<|Jb h rfl rfl<|Jf h rfl rfl) (Jb h rfl rfl<|Jc h rfl k_6<|Jp h rfl (Jd h rfl rfl<|Jg h rfl<|Jb h rfl rfl<|Jc h rfl k_7<|Ju h rfl<|Jo h rfl rfl (S 24 (((S 20 (x1).toNatClampNeg)&&&7)).toNatClampNeg) fun i1=>Je h rfl [.ref 0,.int x1,.int (S 19 (x1).toNatClampNeg),.int (S 20 (x1).toNatClampNeg),.int (S 21 (x1).toNatClampNeg),.int (S 22 (x1).toNatClampNeg),.int (S 24 (((S 20 (x1).toNatClampNeg)&&&7)).toNatClampNeg)]<|Jd h rfl rfl<|Jg h rfl<|Jb h rfl rfl<|Jc h rfl k_7<|Ju h rfl<|Jd h rfl rfl<|Jb h rfl rfl<|Jb h rfl rfl<|Jb h rfl rfl<|Jf h rfl rfl) (Jb h rfl rfl<|Jc h rfl k_7<|Jp h rfl (Jd h rfl rfl<|Jg h rfl<|Jb h rfl rfl<|Jc h rfl k_7<|Ju h rfl<|Jc h rfl k_0<|Jd h rfl rfl<|Jg h rfl<|Jb h rfl rfl<|Jc h rfl k_7<|Ju h rfl<|Jo h rfl rfl (S 24 (((S 20 (x1).toNatClampNeg)&&&7)).toNatClampNeg) fun i1=>JG h rfl<|Jx h rfl rfl (0-(S 24 (((S 20 (x1).toNatClampNeg)&&&7)).toNatClampNeg)) i1<|Jk h rfl) (Jk h rfl)))))))
theorem e1_65_68{f1}(h:Fx f1)(x1 x2 x3 x4 x5 y0 y1:Int32)(S):f1 (65,68,[.ref 0,.int x1,.int x2,.int x3,.int x4,.int x5],[.int y0,.int y1,.ref 24],S)=if inb y1 8=true then some (none,(upd S 24 (y1).toNatClampNeg y0)) else none:=Jv h rfl rfl y0 fun i0=>Jh h rfl<|Jk h rfl
theorem e1_65_92{f1}(h:Fx f1)(x1 x2 x3 x4 x5:Int32)(S):f1 (65,92,[.ref 0,.int x1,.int x2,.int x3,.int x4,.int x5],[],S)=some (none,S):=Jh h rfl<|Jk h rfl
theorem e1_65_107{f1}(h:Fx f1)(x1 x2 x3 x4 x5:Int32)(S):f1 (65,107,[.ref 0,.int x1,.int x2,.int x3,.int x4,.int x5],[],S)=some (none,S):=Jh h rfl<|Jk h rfl
theorem e1_65_156{f1}(h:Fx f1)(x1 x2 x3 x4 x5 x6 x7 y0 y1:Int32)(S):f1 (65,156,[.ref 0,.int x1,.int x2,.int x3,.int x4,.int x5,.int x6,.int x7],[.int y0,.int y1,.ref 24],S)=if inb y1 8=true then some (none,(upd S 24 (y1).toNatClampNeg y0)) else none:=Jv h rfl rfl y0 fun i0=>Jh h rfl<|Jr h rfl<|Jk h rfl
theorem e1_65_195{f1}(h:Fx f1)(x1 x2 x3 x4 x5 x6 y0 y1:Int32)(S):f1 (65,195,[.ref 0,.int x1,.int x2,.int x3,.int x4,.int x5,.int x6],[.int y0,.int y1,.ref 24],S)=if inb y1 8=true then some (none,(upd S 24 (y1).toNatClampNeg y0)) else none:=Jv h rfl rfl y0 fun i0=>Jh h rfl<|Jr h rfl<|Jk h rfl
theorem e1_67_0{f1}(h:Fx f1)(x1 x2:Int32)(S):f1 (67,0,[.ref 0,.int x1,.int x2],[],S)=if x1<0 then some (none,S) else if x1<128 then if inb x1 128=true then if x1<8 then some (none,(upd (upd (upd S 23 (x1).toNatClampNeg x2) 0 9 x1) 0 10 x2)) else some (none,(upd S 23 (x1).toNatClampNeg x2)) else none else some (none,S):=Jb h rfl rfl<|JB h rfl (Jk h rfl) (Jb h rfl rfl<|Jc h rfl k_128<|JK h rfl (Jd h rfl rfl<|Jg h rfl<|Jb h rfl rfl<|Jb h rfl rfl<|Jv h rfl rfl x2 fun i0=>Jb h rfl rfl<|Jc h rfl k_8<|Jm h rfl (Jd h rfl rfl<|Jb h rfl rfl<|Jw h rfl<|Jd h rfl rfl<|Jb h rfl rfl<|Jw h rfl<|Jk h rfl) (Jk h rfl)) (Jk h rfl))
theorem e1_15_0{f1}(h:Fx f1)(S):f1 (15,0,[.ref 0],[],S)=if (S 0 1)=0 then some (some (.int (-1)),S) else some (some (.int (S 0 9)),S):=Jd h rfl rfl<|Jj h rfl (S 0 1)<|Js h rfl (Jc h rfl k_m1<|Ji h rfl) (Jd h rfl rfl<|Jj h rfl (S 0 9)<|Ji h rfl)
theorem e1_16_0{f1}(h:Fx f1)(S):f1 (16,0,[.ref 0],[],S)=if (S 0 1)=0 then some (some (.int 0),S) else some (some (.int (S 0 10)),S):=Jd h rfl rfl<|Jj h rfl (S 0 1)<|Js h rfl (Jc h rfl k_0<|Ji h rfl) (Jd h rfl rfl<|Jj h rfl (S 0 10)<|Ji h rfl)
theorem e1_62_0{f1}(h:Fx f1)(x1 x2:Int32)(S):f1 (62,0,[.ref 0,.int x1,.int x2],[],S)=if x1=2 then some (some (.int x2),S) else if x1=3 then if inb (x2&&&7) 8=true then some (some (.int (S 24 ((x2&&&7)).toNatClampNeg)),S) else none else if x1=1 then if x2<0 then some (some (.int 0),S) else if x2<128 then if inb x2 128=true then some (some (.int (S 23 (x2).toNatClampNeg)),S) else none else some (some (.int 0),S) else some (some (.int 0),S):=Jb h rfl rfl<|Jc h rfl k_2<|Jp h rfl (Jb h rfl rfl<|Ji h rfl) (Jb h rfl rfl<|Jc h rfl k_3<|Jp h rfl (Jd h rfl rfl<|Jg h rfl<|Jb h rfl rfl<|Jc h rfl k_7<|Ju h rfl<|Jo h rfl rfl (S 24 ((x2&&&7)).toNatClampNeg) fun i0=>Ji h rfl) (Jb h rfl rfl<|Jc h rfl k_1<|Jp h rfl (Jb h rfl rfl<|JB h rfl (Jc h rfl k_0<|Ji h rfl) (Jb h rfl rfl<|Jc h rfl k_128<|Jm h rfl (Jd h rfl rfl<|Jg h rfl<|Jb h rfl rfl<|Jo h rfl rfl (S 23 (x2).toNatClampNeg) fun i0=>Ji h rfl) (Jc h rfl k_0<|Ji h rfl))) (Jc h rfl k_0<|Ji h rfl)))
theorem e1_32_0{f1}(h:Fx f1)(x1:Int32)(S):f1 (32,0,[.ref 0,.int x1],[],S)=if x1=10 then f1 (32,12,[.ref 0,.int x1],[],S) else if x1=11 then f1 (32,12,[.ref 0,.int x1],[],S) else (f1 (35,0,[.ref 0,.int x1],[],S)).bind fun q=>f1 (32,59,[.ref 0,.int x1],q.1.toList++[],q.2):=Jb h rfl rfl<|Jc h rfl k_10<|JA h rfl rfl (Jb h rfl rfl<|Jc h rfl k_11<|Jp h rfl rfl (Jd h rfl rfl<|Jb h rfl rfl<|Jf h rfl rfl))
theorem e1_32_12{f1}(h:Fx f1)(x1:Int32)(S):f1 (32,12,[.ref 0,.int x1],[],S)=if (S 0 16)<0 then some (some (.int 0),S) else if (S 0 16)<96 then if inb (S 0 16) 96=true then if (S 31 ((S 0 16)).toNatClampNeg)=0 then (f1 (35,0,[.ref 0,.int x1],[],(upd S 31 ((S 0 16)).toNatClampNeg 1))).bind fun q=>f1 (32,59,[.ref 0,.int x1],q.1.toList++[],q.2) else some (some (.int 0),S) else none else some (some (.int 0),S):=Jd h rfl rfl<|Jj h rfl (S 0 16)<|JB h rfl (Jc h rfl k_0<|Jl h rfl) (Jd h rfl rfl<|Jj h rfl (S 0 16)<|Jc h rfl k_96<|JK h rfl (Jd h rfl rfl<|Jg h rfl<|Jd h rfl rfl<|Jj h rfl (S 0 16)<|J3 h rfl rfl (S 31 ((S 0 16)).toNatClampNeg) fun i0=>Jy h rfl (Jd h rfl rfl<|Jg h rfl<|Jd h rfl rfl<|Jj h rfl (S 0 16)<|Jc h rfl k_1<|J4 h rfl rfl 1 i0<|Jd h rfl rfl<|Jb h rfl rfl<|Jf h rfl rfl) (Jc h rfl k_0<|Jl h rfl)) (Jc h rfl k_0<|Jl h rfl))
theorem e1_32_59{f1}(h:Fx f1)(x1 y0:Int32)(S):f1 (32,59,[.ref 0,.int x1],[.int y0],S)=(f1 (37,0,[.ref 0,.int y0],[],S)).bind fun q=>f1 (32,65,[.ref 0,.int x1,.int y0],q.1.toList++[],q.2):=Je h rfl [.ref 0,.int x1,.int y0]<|Jd h rfl rfl<|Jb h rfl rfl<|Jf h rfl rfl
theorem e1_32_65{f1}(h:Fx f1)(x1 x2:Int32)(S):f1 (32,65,[.ref 0,.int x1,.int x2],[],S)=(f1 (36,0,[.ref 0,.int x1],[],S)).bind fun q=>f1 (32,70,[.ref 0,.int x1,.int x2],q.1.toList++[],q.2):=Jd h rfl rfl<|Jb h rfl rfl<|Jf h rfl rfl
theorem e1_32_70{f1}(h:Fx f1)(x1 x2 y0:Int32)(S):f1 (32,70,[.ref 0,.int x1,.int x2],[.int y0],S)=if y0=0 then some (some (.int 0),S) else some (some (.int 1),(upd S 0 11 2)):=Js h rfl (Jc h rfl k_0<|Jl h rfl) (Jd h rfl rfl<|Jc h rfl k_2<|Jw h rfl<|Jc h rfl k_1<|JC h rfl)
theorem e1_35_0{f1}(h:Fx f1)(x1:Int32)(S):f1 (35,0,[.ref 0,.int x1],[],S)=if x1=10 then some (some (.int 1),S) else if x1=11 then some (some (.int 1),S) else if x1=5 then some (some (.int 2),S) else if x1=6 then some (some (.int 2),S) else if x1=7 then some (some (.int 3),S) else if x1=8 then some (some (.int 3),S) else if x1=9 then some (some (.int 3),S) else if x1=20 then some (some (.int 4),S) else some (some (.int 0),S):=Jb h rfl rfl<|Jc h rfl k_10<|JA h rfl (Jc h rfl k_1<|Ji h rfl) (Jb h rfl rfl<|Jc h rfl k_11<|Jp h rfl (Jc h rfl k_1<|Ji h rfl) (Jb h rfl rfl<|Jc h rfl k_5<|JA h rfl (Jc h rfl k_2<|Ji h rfl) (Jb h rfl rfl<|Jc h rfl k_6<|Jp h rfl (Jc h rfl k_2<|Ji h rfl) (Jb h rfl rfl<|Jc h rfl k_7<|JA h rfl (Jc h rfl k_3<|Ji h rfl) (Jb h rfl rfl<|Jc h rfl k_8<|JA h rfl (Jc h rfl k_3<|Ji h rfl) (Jb h rfl rfl<|Jc h rfl k_9<|Jp h rfl (Jc h rfl k_3<|Ji h rfl) (Jb h rfl rfl<|Jc h rfl k_20<|Jp h rfl (Jc h rfl k_4<|Ji h rfl) (Jc h rfl k_0<|Ji h rfl))))))))
theorem e1_36_0{f1}(h:Fx f1)(x1:Int32)(S):f1 (36,0,[.ref 0,.int x1],[],S)=if (S 0 15)<0 then some (some (.int 0),S) else if (S 0 15)<96 then if inb (S 0 15) 96=true then some (some (.int 1),(upd (upd S 30 ((S 0 15)).toNatClampNeg x1) 0 15 ((S 0 15)+1))) else none else some (some (.int 0),S):=Jd h rfl rfl<|Jj h rfl (S 0 15)<|JB h rfl (Jc h rfl k_0<|Jl h rfl) (Jd h rfl rfl<|Jj h rfl (S 0 15)<|Jc h rfl k_96<|JK h rfl (Jd h rfl rfl<|Jg h rfl<|Jd h rfl rfl<|Jj h rfl (S 0 15)<|Jb h rfl rfl<|Jv h rfl rfl x1 fun i0=>Jd h rfl rfl<|JO h rfl<|Jj h rfl (S 0 15)<|Jc h rfl k_1<|Jt h rfl<|Jw h rfl<|Jc h rfl k_1<|JC h rfl) (Jc h rfl k_0<|Jl h rfl))
theorem e1_39_0{f1}(h:Fx f1)(x1:Int32)(S):f1 (39,0,[.ref 0,.int x1],[],S)=if x1=20 then f1 (39,7,[.ref 0,.int x1],[.ref 0],S) else (f1 (41,0,[.ref 0,.int x1],[],S)).bind fun q=>f1 (39,18,[.ref 0,.int x1],q.1.toList++[],q.2):=Jb h rfl rfl<|Jc h rfl k_20<|Jp h rfl (Jd h rfl rfl rfl) (Jd h rfl rfl<|Jb h rfl rfl<|Jf h rfl rfl)
theorem e1_39_18{f1}(h:Fx f1)(x1:Int32)(S):f1 (39,18,[.ref 0,.int x1],[],S)=some (none,S):=Jk h rfl
theorem e1_41_0{f1}(h:Fx f1)(x1:Int32)(S):f1 (41,0,[.ref 0,.int x1],[],S)=if (S 0 14)<2 then some (none,S) else if 96<(S 0 14) then some (none,S) else if inb ((S 0 14)-2) 96=true then if (S 27 (((S 0 14)-2)).toNatClampNeg)=1 then if inb ((S 0 14)-1) 96=true then if (S 27 (((S 0 14)-1)).toNatClampNeg)=1 then (f1 (68,0,[.ref 0,.int x1,.int (S 28 (((S 0 14)-2)).toNatClampNeg),.int (S 28 (((S 0 14)-1)).toNatClampNeg)],[],S)).bind fun q=>f1 (41,74,[.ref 0,.int x1,.int ((S 0 14)-2),.int ((S 0 14)-1)],q.1.toList++[.int ((S 0 14)-2),.ref 28],q.2) else (f1 (42,0,[.ref 0,.int x1,.int ((S 0 14)-2),.int ((S 0 14)-1)],[],S)).bind fun q=>f1 (41,93,[.ref 0,.int x1,.int ((S 0 14)-2),.int ((S 0 14)-1)],q.1.toList++[],q.2) else none else (f1 (42,0,[.ref 0,.int x1,.int ((S 0 14)-2),.int ((S 0 14)-1)],[],S)).bind fun q=>f1 (41,93,[.ref 0,.int x1,.int ((S 0 14)-2),.int ((S 0 14)-1)],q.1.toList++[],q.2) else none:=Jd h rfl rfl<|Jj h rfl (S 0 14)<|Jc h rfl k_2<|JK h rfl (Jk h rfl) (Jd h rfl rfl<|Jj h rfl (S 0 14)<|Jc h rfl k_96<|JP h rfl (Jk h rfl) (Jd h rfl rfl<|Jj h rfl (S 0 14)<|Jc h rfl k_2<|JG h rfl<|Je h rfl [.ref 0,.int x1,.int ((S 0 14)-2)]<|Jd h rfl rfl<|Jj h rfl (S 0 14)<|Jc h rfl k_1<|JG h rfl<|Je h rfl [.ref 0,.int x1,.int ((S 0 14)-2),.int ((S 0 14)-1)]<|Jd h rfl rfl<|Jg h rfl<|Jb h rfl rfl<|Jo h rfl rfl (S 27 (((S 0 14)-2)).toNatClampNeg) fun i0=>Jc h rfl k_1<|Jp h rfl (Jd h rfl rfl<|Jg h rfl<|Jb h rfl rfl<|Jo h rfl rfl (S 27 (((S 0 14)-1)).toNatClampNeg) fun i1=>Jc h rfl k_1<|Jp h rfl (Jd h rfl rfl<|Jg h rfl<|Jb h rfl rfl<|Jd h rfl rfl<|Jb h rfl rfl<|Jd h rfl rfl<|Jg h rfl<|Jb h rfl rfl<|JF h rfl rfl i0 (S 28 (((S 0 14)-2)).toNatClampNeg)<|Jd h rfl rfl<|Jg h rfl<|Jb h rfl rfl<|JF h rfl rfl i1 (S 28 (((S 0 14)-1)).toNatClampNeg)<|Jf h rfl rfl) (Jd h rfl rfl<|Jb h rfl rfl<|Jb h rfl rfl<|Jb h rfl rfl<|Jf h rfl rfl)) (Jd h rfl rfl<|Jb h rfl rfl<|Jb h rfl rfl<|Jb h rfl rfl<|Jf h rfl rfl)))
theorem e1_41_93{f1}(h:Fx f1)(x1 x2 x3 y0:Int32)(S):f1 (41,93,[.ref 0,.int x1,.int x2,.int x3],[.int y0],S)=if y0=0 then (f1 (48,0,[.ref 0,.int x2,.int x3],[],S)).bind fun q=>f1 (41,103,[.ref 0,.int x1,.int x2,.int x3],q.1.toList++[],q.2) else some (none,S):=Jy h rfl (Jd h rfl rfl<|Jb h rfl rfl<|Jb h rfl rfl<|Jf h rfl rfl) (Jk h rfl)
theorem e1_41_103{f1}(h:Fx f1)(x1 x2 x3 y0:Int32)(S):f1 (41,103,[.ref 0,.int x1,.int x2,.int x3],[.int y0],S)=if inb x3 96=true then if (S 27 (x3).toNatClampNeg)=1 then (f1 (52,0,[.ref 0,.int 6,.int y0,.int (S 28 (x3).toNatClampNeg),.int x1],[],S)).bind fun q=>f1 (41,130,[.ref 0,.int x1,.int x2,.int x3,.int y0],q.1.toList++[],q.2) else (f1 (48,0,[.ref 0,.int x3,.int x2],[],S)).bind fun q=>f1 (41,140,[.ref 0,.int x1,.int x2,.int x3,.int y0],q.1.toList++[],q.2) else none:=Je h rfl [.ref 0,.int x1,.int x2,.int x3,.int y0]<|Jd h rfl rfl<|Jg h rfl<|Jb h rfl rfl<|Jo h rfl rfl (S 27 (x3).toNatClampNeg) fun i0=>Jc h rfl k_1<|Jp h rfl (Jd h rfl rfl<|Jc h rfl k_6<|Jb h rfl rfl<|Jd h rfl rfl<|Jg h rfl<|Jb h rfl rfl<|JF h rfl rfl i0 (S 28 (x3).toNatClampNeg)<|Jb h rfl rfl<|Jf h rfl rfl) (Jd h rfl rfl<|Jb h rfl rfl<|Jb h rfl rfl<|Jf h rfl rfl)
theorem e1_41_130{f1}(h:Fx f1)(x1 x2 x3 x4 y0:Int32)(S):f1 (41,130,[.ref 0,.int x1,.int x2,.int x3,.int x4],[.int y0],S)=f1 (41,158,[.ref 0,.int x1,.int x2,.int x3,.int x4],[],S):=JN h rfl<|Jh h rfl rfl
theorem e1_41_140{f1}(h:Fx f1)(x1 x2 x3 x4 y0:Int32)(S):f1 (41,140,[.ref 0,.int x1,.int x2,.int x3,.int x4],[.int y0],S)=(f1 (52,0,[.ref 0,.int 5,.int x4,.int y0,.int x1],[],S)).bind fun q=>f1 (41,152,[.ref 0,.int x1,.int x2,.int x3,.int x4,.int y0],q.1.toList++[],q.2):=Je h rfl [.ref 0,.int x1,.int x2,.int x3,.int x4,.int y0]<|Jd h rfl rfl<|Jc h rfl k_5<|Jb h rfl rfl<|Jb h rfl rfl<|Jb h rfl rfl<|Jf h rfl rfl
theorem e1_41_152{f1}(h:Fx f1)(x1 x2 x3 x4 x5 y0:Int32)(S):f1 (41,152,[.ref 0,.int x1,.int x2,.int x3,.int x4,.int x5],[.int y0],S)=(f1 (47,0,[.ref 0,.int x3],[],S)).bind fun q=>f1 (41,158,[.ref 0,.int x1,.int x2,.int x3,.int x4,.int x5],q.1.toList++[],q.2):=JN h rfl<|Jd h rfl rfl<|Jb h rfl rfl<|Jf h rfl rfl
theorem e1_41_158{f1}(h:Fx f1)(x1 x2 x3 x4:Int32)(S):f1 (41,158,[.ref 0,.int x1,.int x2,.int x3,.int x4],[],S)=some (none,(upd S 0 14 ((S 0 14)-1))):=Jd h rfl rfl<|JO h rfl<|Jj h rfl (S 0 14)<|Jc h rfl k_1<|JG h rfl<|Jw h rfl<|Jk h rfl
theorem e1_41_158x{f1}(h:Fx f1)(x1 x2 x3 x4 x5:Int32)(S):f1 (41,158,[.ref 0,.int x1,.int x2,.int x3,.int x4,.int x5],[],S)=some (none,(upd S 0 14 ((S 0 14)-1))):=Jr h rfl<|Jd h rfl rfl<|JO h rfl<|Jj h rfl (S 0 14)<|Jc h rfl k_1<|JG h rfl<|Jw h rfl<|Jk h rfl
theorem e1_42_0{f1}(h:Fx f1)(x1 x2 x3:Int32)(S):f1 (42,0,[.ref 0,.int x1,.int x2,.int x3],[],S)=if inb x3 96=true then if (S 27 (x3).toNatClampNeg)=1 then (f1 (43,0,[.ref 0,.int x1,.int (S 28 (x3).toNatClampNeg)],[],S)).bind fun q=>f1 (42,21,[.ref 0,.int x1,.int x2,.int x3],q.1.toList++[],q.2) else if inb x2 96=true then if (S 27 (x2).toNatClampNeg)=1 then f1 (42,75,[.ref 0,.int x1,.int x2,.int x3],[.int (S 28 (x2).toNatClampNeg),.int x1,.ref 0],S) else some (some (.int 0),S) else none else none:=Jd h rfl rfl<|Jg h rfl<|Jb h rfl rfl<|Jo h rfl rfl (S 27 (x3).toNatClampNeg) fun i0=>Jc h rfl k_1<|Jp h rfl (Jd h rfl rfl<|Jb h rfl rfl<|Jd h rfl rfl<|Jg h rfl<|Jb h rfl rfl<|JF h rfl rfl i0 (S 28 (x3).toNatClampNeg)<|Jf h rfl rfl) (Jd h rfl rfl<|Jg h rfl<|Jb h rfl rfl<|Jo h rfl rfl (S 27 (x2).toNatClampNeg) fun i1=>Jc h rfl k_1<|Jp h rfl (Jd h rfl rfl<|Jb h rfl rfl<|Jd h rfl rfl<|Jg h rfl<|Jb h rfl rfl<|JF h rfl rfl i1 (S 28 (x2).toNatClampNeg) rfl) (Jc h rfl k_0<|Jl h rfl))
theorem e1_42_21{f1}(h:Fx f1)(x1 x2 x3 y0:Int32)(S):f1 (42,21,[.ref 0,.int x1,.int x2,.int x3],[.int y0],S)=if y0=1 then some (some (.int 1),(upd S 0 14 ((S 0 14)-1))) else if y0=2 then (f1 (45,0,[.ref 0,.int x2,.int x3],[],S)).bind fun q=>f1 (42,53,[.ref 0,.int x1,.int x2,.int x3,.int y0],q.1.toList++[],q.2) else some (some (.int 0),S):=Je h rfl [.ref 0,.int x1,.int x2,.int x3,.int y0]<|Jb h rfl rfl<|Jc h rfl k_1<|Jp h rfl (Jd h rfl rfl<|JO h rfl<|Jj h rfl (S 0 14)<|Jc h rfl k_1<|JG h rfl<|Jw h rfl<|Jc h rfl k_1<|JC h rfl) (Jb h rfl rfl<|Jc h rfl k_2<|Jp h rfl (Jd h rfl rfl<|Jb h rfl rfl<|Jb h rfl rfl<|Jf h rfl rfl) (Jc h rfl k_0<|Jl h rfl))
theorem e1_42_53{f1}(h:Fx f1)(x1 x2 x3 x4:Int32)(S):f1 (42,53,[.ref 0,.int x1,.int x2,.int x3,.int x4],[],S)=some (some (.int 1),S):=Jc h rfl k_1<|JC h rfl
theorem e1_43_0{f1}(h:Fx f1)(x1 x2:Int32)(S):f1 (43,0,[.ref 0,.int x1,.int x2],[],S)=if x1=5 then f1 (43,11,[.ref 0,.int x1,.int x2],[],S) else if x1=6 then f1 (43,11,[.ref 0,.int x1,.int x2],[],S) else f1 (43,17,[.ref 0,.int x1,.int x2],[],S):=Jb h rfl rfl<|Jc h rfl k_5<|JA h rfl rfl (Jb h rfl rfl<|Jc h rfl k_6<|Jp h rfl rfl rfl)
theorem e1_43_11{f1}(h:Fx f1)(x1 x2:Int32)(S):f1 (43,11,[.ref 0,.int x1,.int x2],[],S)=if x2=0 then some (some (.int 1),S) else f1 (43,17,[.ref 0,.int x1,.int x2],[],S):=Jb h rfl rfl<|Js h rfl (Jc h rfl k_1<|Ji h rfl) rfl
theorem e1_43_17{f1}(h:Fx f1)(x1 x2:Int32)(S):f1 (43,17,[.ref 0,.int x1,.int x2],[],S)=if x1=7 then f1 (43,29,[.ref 0,.int x1,.int x2],[],S) else if x1=8 then f1 (43,29,[.ref 0,.int x1,.int x2],[],S) else f1 (43,36,[.ref 0,.int x1,.int x2],[],S):=Jb h rfl rfl<|Jc h rfl k_7<|JA h rfl rfl (Jb h rfl rfl<|Jc h rfl k_8<|Jp h rfl rfl rfl)
theorem e1_43_29{f1}(h:Fx f1)(x1 x2:Int32)(S):f1 (43,29,[.ref 0,.int x1,.int x2],[],S)=if x2=1 then some (some (.int 1),S) else f1 (43,36,[.ref 0,.int x1,.int x2],[],S):=Jb h rfl rfl<|Jc h rfl k_1<|Jp h rfl (Jc h rfl k_1<|Ji h rfl) rfl
theorem e1_43_36{f1}(h:Fx f1)(x1 x2:Int32)(S):f1 (43,36,[.ref 0,.int x1,.int x2],[],S)=if x1=7 then f1 (43,48,[.ref 0,.int x1,.int x2],[],S) else if x1=8 then f1 (43,48,[.ref 0,.int x1,.int x2],[],S) else f1 (43,54,[.ref 0,.int x1,.int x2],[],S):=Jb h rfl rfl<|Jc h rfl k_7<|JA h rfl rfl (Jb h rfl rfl<|Jc h rfl k_8<|Jp h rfl rfl rfl)
theorem e1_43_48{f1}(h:Fx f1)(x1 x2:Int32)(S):f1 (43,48,[.ref 0,.int x1,.int x2],[],S)=if x2=0 then some (some (.int 2),S) else f1 (43,54,[.ref 0,.int x1,.int x2],[],S):=Jb h rfl rfl<|Js h rfl (Jc h rfl k_2<|Ji h rfl) rfl
theorem e1_43_54{f1}(h:Fx f1)(x1 x2:Int32)(S):f1 (43,54,[.ref 0,.int x1,.int x2],[],S)=if x1=9 then if x2=0 then some (some (.int 2),S) else if x2=1 then some (some (.int 2),S) else if x2=(-1) then some (some (.int 2),S) else some (some (.int 0),S) else some (some (.int 0),S):=Jb h rfl rfl<|Jc h rfl k_9<|Jp h rfl (Jb h rfl rfl<|Jy h rfl (Jc h rfl k_2<|Ji h rfl) (Jb h rfl rfl<|Jc h rfl k_1<|JA h rfl (Jc h rfl k_2<|Ji h rfl) (Jb h rfl rfl<|Jc h rfl k_m1<|Jp h rfl (Jc h rfl k_2<|Ji h rfl) (Jc h rfl k_0<|Ji h rfl)))) (Jc h rfl k_0<|Ji h rfl)
theorem e1_48_0{f1}(h:Fx f1)(x1 x2:Int32)(S):f1 (48,0,[.ref 0,.int x1,.int x2],[],S)=if x1<0 then some (some (.int 0),S) else if x1<96 then if inb x1 96=true then if (S 27 (x1).toNatClampNeg)=3 then some (some (.int ((S 28 (x1).toNatClampNeg)&&&7)),S) else (f1 (49,0,[.ref 0,.int x1,.int x2],[],S)).bind fun q=>f1 (48,40,[.ref 0,.int x1,.int x2,.int (S 27 (x1).toNatClampNeg)],q.1.toList++[],q.2) else none else some (some (.int 0),S):=Jb h rfl rfl<|JB h rfl (Jc h rfl k_0<|Ji h rfl) (Jb h rfl rfl<|Jc h rfl k_96<|JK h rfl (Jd h rfl rfl<|Jg h rfl<|Jb h rfl rfl<|Jo h rfl rfl (S 27 (x1).toNatClampNeg) fun i0=>Je h rfl [.ref 0,.int x1,.int x2,.int (S 27 (x1).toNatClampNeg)]<|Jb h rfl rfl<|Jc h rfl k_3<|Jp h rfl (Jd h rfl rfl<|Jg h rfl<|Jb h rfl rfl<|JF h rfl rfl i0 (S 28 (x1).toNatClampNeg)<|Jc h rfl k_7<|Ju h rfl<|Ji h rfl) (Jd h rfl rfl<|Jb h rfl rfl<|Jb h rfl rfl<|Jf h rfl rfl)) (Jc h rfl k_0<|Ji h rfl))
theorem e1_48_40{f1}(h:Fx f1)(x1 x2 x3 y0:Int32)(S):f1 (48,40,[.ref 0,.int x1,.int x2,.int x3],[.int y0],S)=if x3=1 then if inb x1 96=true then (f1 (52,0,[.ref 0,.int 1,.int y0,.int (S 28 (x1).toNatClampNeg),.int 0],[],S)).bind fun q=>f1 (48,61,[.ref 0,.int x1,.int x2,.int x3,.int y0],q.1.toList++[],q.2) else none else if inb x1 96=true then (f1 (52,0,[.ref 0,.int 2,.int y0,.int (S 28 (x1).toNatClampNeg),.int 0],[],S)).bind fun q=>f1 (48,79,[.ref 0,.int x1,.int x2,.int x3,.int y0],q.1.toList++[],q.2) else none:=Je h rfl [.ref 0,.int x1,.int x2,.int x3,.int y0]<|Jb h rfl rfl<|Jc h rfl k_1<|Jp h rfl (Jd h rfl rfl<|Jc h rfl k_1<|Jb h rfl rfl<|Jd h rfl rfl<|Jg h rfl<|Jb h rfl rfl<|Jo h rfl rfl (S 28 (x1).toNatClampNeg) fun i0=>Jc h rfl k_0<|Jf h rfl rfl) (Jd h rfl rfl<|Jc h rfl k_2<|Jb h rfl rfl<|Jd h rfl rfl<|Jg h rfl<|Jb h rfl rfl<|Jo h rfl rfl (S 28 (x1).toNatClampNeg) fun i0=>Jc h rfl k_0<|Jf h rfl rfl)
theorem e1_48_79{f1}(h:Fx f1)(x1 x2 x3 x4 y0:Int32)(S):f1 (48,79,[.ref 0,.int x1,.int x2,.int x3,.int x4],[.int y0],S)=f1 (48,80,[.ref 0,.int x1,.int x2,.int x3,.int x4],[],S):=JN h rfl rfl
theorem e1_48_80{f1}(h:Fx f1)(x1 x2 x3 x4:Int32)(S):f1 (48,80,[.ref 0,.int x1,.int x2,.int x3,.int x4],[],S)=if inb x1 96=true then if inb x4 8=true then some (some (.int x4),(upd (upd (upd S 27 (x1).toNatClampNeg 3) 28 (x1).toNatClampNeg x4) 29 (x4).toNatClampNeg x1)) else none else none:=Jd h rfl rfl<|Jg h rfl<|Jb h rfl rfl<|Jc h rfl k_3<|Jv h rfl rfl 3 fun i0=>Jd h rfl rfl<|Jg h rfl<|Jb h rfl rfl<|Jb h rfl rfl<|Jx h rfl rfl x4 i0<|Jd h rfl rfl<|Jg h rfl<|Jb h rfl rfl<|Jb h rfl rfl<|Jv h rfl rfl x1 fun i1=>Jb h rfl rfl<|Ji h rfl
theorem e1_49_0{f1}(h:Fx f1)(x1 x2:Int32)(S):f1 (49,0,[.ref 0,.int x1,.int x2],[],S)=f1 (49,2,[.ref 0,.int x1,.int x2,.int 0],[],S):=Jc h rfl k_0<|Je h rfl [.ref 0,.int x1,.int x2,.int 0] rfl
theorem e1_49_2{f1}(h:Fx f1)(x1 x2 x3:Int32)(S):f1 (49,2,[.ref 0,.int x1,.int x2,.int x3],[],S)=if x3<(S 0 0) then if x3<8 then if inb x3 8=true then if (S 29 (x3).toNatClampNeg)<0 then some (some (.int x3),S) else f1 (49,2,[.ref 0,.int x1,.int x2,.int (x3+1)],[],S) else none else f1 (49,38,[.ref 0,.int x1,.int x2,.int (-1),.int 0],[],S) else f1 (49,38,[.ref 0,.int x1,.int x2,.int (-1),.int 0],[],S):=Jb h rfl rfl<|Jd h rfl rfl<|Jj h rfl (S 0 0)<|Jm h rfl (Jb h rfl rfl<|Jc h rfl k_8<|Jm h rfl (Jd h rfl rfl<|Jg h rfl<|Jb h rfl rfl<|Jo h rfl rfl (S 29 (x3).toNatClampNeg) fun i0=>JQ h rfl (Jb h rfl rfl<|Ji h rfl) (Jn h rfl k_1 rfl [.ref 0,.int x1,.int x2,.int (x3+1)]<|Jh h rfl rfl)) (Jc h rfl k_m1<|Je h rfl [.ref 0,.int x1,.int x2,.int (-1)]<|Jc h rfl k_0<|Je h rfl [.ref 0,.int x1,.int x2,.int (-1),.int 0] rfl)) (Jc h rfl k_m1<|Je h rfl [.ref 0,.int x1,.int x2,.int (-1)]<|Jc h rfl k_0<|Je h rfl [.ref 0,.int x1,.int x2,.int (-1),.int 0] rfl)
theorem e1_51_0{f1}(h:Fx f1)(S):f1 (51,0,[.ref 0],[],S)=if (S 0 12)<0 then some (none,S) else if (S 0 12)<32 then if (S 0 14)<1 then f1 (51,34,[.ref 0,.int (S 0 12)],[],S) else if (S 27 0)=1 then f1 (51,34,[.ref 0,.int (S 0 12)],[],S) else (f1 (48,0,[.ref 0,.int 0,.int (-1)],[],S)).bind fun q=>f1 (51,79,[.ref 0,.int (S 0 12)],q.1.toList++[],q.2) else some (none,S):=Jd h rfl rfl<|Jj h rfl (S 0 12)<|Je h rfl [.ref 0,.int (S 0 12)]<|Jb h rfl rfl<|JB h rfl (Jk h rfl) (Jb h rfl rfl<|Jc h rfl k_32<|JK h rfl (Jd h rfl rfl<|Jj h rfl (S 0 14)<|Jc h rfl k_1<|JK h rfl rfl (Jd h rfl rfl<|Jg h rfl<|Jc h rfl k_0<|Jaz h rfl rfl 0 (S 27 0)<|Jc h rfl k_1<|Jp h rfl rfl (Jd h rfl rfl<|Jc h rfl k_0<|Jc h rfl k_m1<|Jf h rfl rfl))) (Jk h rfl))
theorem e1_51_34{f1}(h:Fx f1)(x1:Int32)(S):f1 (51,34,[.ref 0,.int x1],[],S)=if (S 0 14)<1 then (f1 (52,0,[.ref 0,.int 10,.int 0,.int (-2),.int (-2)],[],S)).bind fun q=>f1 (51,71,[.ref 0,.int x1,.int 0],q.1.toList++[.int x1,.ref 10],q.2) else if (S 28 0)=0 then (f1 (52,0,[.ref 0,.int 10,.int 0,.int (-2),.int (-2)],[],S)).bind fun q=>f1 (51,71,[.ref 0,.int x1,.int 0],q.1.toList++[.int x1,.ref 10],q.2) else (f1 (52,0,[.ref 0,.int 10,.int 1,.int (-2),.int (-2)],[],S)).bind fun q=>f1 (51,71,[.ref 0,.int x1,.int 1],q.1.toList++[.int x1,.ref 10],q.2):=Jc h rfl k_0<|Je h rfl [.ref 0,.int x1,.int 0]<|Jd h rfl rfl<|Jj h rfl (S 0 14)<|Jc h rfl k_1<|JK h rfl (Jd h rfl rfl<|Jg h rfl<|Jb h rfl rfl<|Jd h rfl rfl<|Jc h rfl k_10<|Jb h rfl rfl<|Jc h rfl k_m2<|Jc h rfl k_m2<|Jf h rfl rfl) (Jd h rfl rfl<|Jg h rfl<|Jc h rfl k_0<|Jaz h rfl rfl 0 (S 28 0)<|Jy h rfl (Jd h rfl rfl<|Jg h rfl<|Jb h rfl rfl<|Jd h rfl rfl<|Jc h rfl k_10<|Jb h rfl rfl<|Jc h rfl k_m2<|Jc h rfl k_m2<|Jf h rfl rfl) (Jc h rfl k_1<|Je h rfl [.ref 0,.int x1,.int 1]<|Jd h rfl rfl<|Jg h rfl<|Jb h rfl rfl<|Jd h rfl rfl<|Jc h rfl k_10<|Jb h rfl rfl<|Jc h rfl k_m2<|Jc h rfl k_m2<|Jf h rfl rfl))
theorem e1_51_71{f1}(h:Fx f1)(x1 x2 y0 y1:Int32)(S):f1 (51,71,[.ref 0,.int x1,.int x2],[.int y0,.int y1,.ref 10],S)=if inb y1 32=true then some (none,(upd S 10 (y1).toNatClampNeg y0)) else none:=Jv h rfl rfl y0 fun i0=>Jk h rfl
theorem e1_51_79{f1}(h:Fx f1)(x1 y0:Int32)(S):f1 (51,79,[.ref 0,.int x1],[.int y0],S)=(f1 (52,0,[.ref 0,.int 9,.int y0,.int (-2),.int (-2)],[],S)).bind fun q=>f1 (51,96,[.ref 0,.int x1,.int y0],q.1.toList++[.int x1,.ref 10],q.2):=Je h rfl [.ref 0,.int x1,.int y0]<|Jd h rfl rfl<|Jg h rfl<|Jb h rfl rfl<|Jd h rfl rfl<|Jc h rfl k_9<|Jb h rfl rfl<|Jc h rfl k_m2<|Jc h rfl k_m2<|Jf h rfl rfl
theorem e1_51_96{f1}(h:Fx f1)(x1 x2 y0 y1:Int32)(S):f1 (51,96,[.ref 0,.int x1,.int x2],[.int y0,.int y1,.ref 10],S)=if inb y1 32=true then some (none,(upd S 10 (y1).toNatClampNeg y0)) else none:=Jv h rfl rfl y0 fun i0=>Jk h rfl
theorem e1_27_0{f1}(h:Fx f1)(S):f1 (27,0,[.ref 0],[],S)=if (S 0 13)<0 then some (some (.int 0),S) else if ((S 0 13)+1)<40 then if inb ((S 0 13)+1) 40=true then some (some (.int 1),(upd (upd (upd (upd S 0 13 ((S 0 13)+1)) 25 (((S 0 13)+1)).toNatClampNeg (S 0 12)) 26 (((S 0 13)+1)).toNatClampNeg (-1)) 0 11 0)) else none else some (some (.int 0),S):=Jd h rfl rfl<|Jj h rfl (S 0 13)<|JB h rfl (Jc h rfl k_0<|Jl h rfl) (Jd h rfl rfl<|Jj h rfl (S 0 13)<|Jc h rfl k_1<|Jt h rfl<|Jc h rfl k_40<|JK h rfl (Jd h rfl rfl<|JO h rfl<|Jj h rfl (S 0 13)<|Jc h rfl k_1<|Jt h rfl<|Jw h rfl<|Jd h rfl rfl<|Jg h rfl<|Jd h rfl rfl<|Jj h rfl ((S 0 13)+1)<|Jd h rfl rfl<|Jj h rfl (S 0 12)<|Jv h rfl rfl (S 0 12) fun i0=>Jd h rfl rfl<|Jg h rfl<|Jd h rfl rfl<|Jj h rfl ((S 0 13)+1)<|Jc h rfl k_m1<|Jx h rfl rfl (-1) i0<|Jd h rfl rfl<|Jc h rfl k_0<|Jw h rfl<|Jc h rfl k_1<|JC h rfl) (Jc h rfl k_0<|Jl h rfl))
theorem e1_66_0{f1}(h:Fx f1)(x1:Int32)(S):f1 (66,0,[.ref 0,.int x1],[],S)=if x1<0 then some (some (.int 0),S) else if x1<128 then if inb x1 128=true then some (some (.int (S 23 (x1).toNatClampNeg)),S) else none else some (some (.int 0),S):=Jb h rfl rfl<|JB h rfl (Jc h rfl k_0<|Ji h rfl) (Jb h rfl rfl<|Jc h rfl k_128<|JK h rfl (Jd h rfl rfl<|Jg h rfl<|Jb h rfl rfl<|Jo h rfl rfl (S 23 (x1).toNatClampNeg) fun i0=>Ji h rfl) (Jc h rfl k_0<|Ji h rfl))
theorem e1_68_0{f1}(h:Fx f1)(x1 x2 x3:Int32)(S):f1 (68,0,[.ref 0,.int x1,.int x2,.int x3],[],S)=if x1=5 then some (some (.int (x2+x3)),S) else if x1=6 then some (some (.int (x2-x3)),S) else if x1=7 then some (some (.int (x2*x3)),S) else if x1=8 then if x3=0 then some (some (.int 0),S) else f1 (68,43,[.ref 0,.int x1,.int x2,.int x3],[.int x3,.int x2],S) else if x1=9 then if x3=0 then some (some (.int 0),S) else f1 (68,59,[.ref 0,.int x1,.int x2,.int x3],[.int x3,.int x2],S) else if x1=10 then if x2<x3 then some (some (.int 1),S) else some (some (.int 0),S) else if x1=11 then if x2=x3 then some (some (.int 1),S) else some (some (.int 0),S) else some (some (.int 0),S):=Jb h rfl rfl<|Jc h rfl k_5<|Jp h rfl (Jb h rfl rfl<|Jb h rfl rfl<|Jt h rfl<|Ji h rfl) (Jb h rfl rfl<|Jc h rfl k_6<|Jp h rfl (Jb h rfl rfl<|Jb h rfl rfl<|JG h rfl<|Ji h rfl) (Jb h rfl rfl<|Jc h rfl k_7<|Jp h rfl (Jb h rfl rfl<|Jb h rfl rfl<|Jz h rfl<|Ji h rfl) (Jb h rfl rfl<|Jc h rfl k_8<|Jp h rfl (Jb h rfl rfl<|Js h rfl (Jc h rfl k_0<|Ji h rfl) (Jb h rfl rfl<|Jb h rfl rfl rfl)) (Jb h rfl rfl<|Jc h rfl k_9<|Jp h rfl (Jb h rfl rfl<|Js h rfl (Jc h rfl k_0<|Ji h rfl) (Jb h rfl rfl<|Jb h rfl rfl rfl)) (Jb h rfl rfl<|Jc h rfl k_10<|Jp h rfl (Jb h rfl rfl<|Jb h rfl rfl<|Jm h rfl (Jc h rfl k_1<|Jh h rfl<|Ji h rfl) (Jc h rfl k_0<|Ji h rfl)) (Jb h rfl rfl<|Jc h rfl k_11<|Jp h rfl (Jb h rfl rfl<|Jb h rfl rfl<|Jp h rfl (Jc h rfl k_1<|Jh h rfl<|Ji h rfl) (Jc h rfl k_0<|Ji h rfl)) (Jc h rfl k_0<|Ji h rfl)))))))
theorem e1_68_59{f1}(h:Fx f1)(x1 x2 x3 y0 y1:Int32)(hz_y0:y0≠0)(S):f1 (68,59,[.ref 0,.int x1,.int x2,.int x3],[.int y0,.int y1],S)=some (some (.int (y1%y0)),S):=JX h rfl hz_y0<|Ji h rfl
theorem e1_68_43{f1}(h:Fx f1)(x1 x2 x3 y0 y1:Int32)(hz_y0:y0≠0)(S):f1 (68,43,[.ref 0,.int x1,.int x2,.int x3],[.int y0,.int y1],S)=some (some (.int (y1/y0)),S):=Jad h rfl hz_y0<|Ji h rfl
theorem e1_9_0{f1}(h:Fx f1)(x1:Int32)(S):f1 (9,0,[.ref 0,.int x1],[],S)=if x1<1 then f1 (9,9,[.ref 0,.int x1,.int 1],[],S) else f1 (9,9,[.ref 0,.int x1,.int x1],[],S):=Jb h rfl rfl<|Je h rfl [.ref 0,.int x1,.int x1]<|Jb h rfl rfl<|Jc h rfl k_1<|Jm h rfl (Jc h rfl k_1<|Je h rfl [.ref 0,.int x1,.int 1] rfl) rfl
theorem e1_9_9{f1}(h:Fx f1)(x1 x2:Int32)(S):f1 (9,9,[.ref 0,.int x1,.int x2],[],S)=if 256<x2 then f1 (9,20,[.ref 0,.int x1,.int 256],[],S) else f1 (9,20,[.ref 0,.int x1,.int x2],[],S):=Jb h rfl rfl<|Jc h rfl k_256<|JP h rfl (Jc h rfl k_256<|Je h rfl [.ref 0,.int x1,.int 256] rfl) rfl
theorem e1_9_20{f1}(h:Fx f1)(x1 x2:Int32)(S):f1 (9,20,[.ref 0,.int x1,.int x2],[],S)=if (S 0 1)=0 then some (some (.int (-1)),S) else if (S 0 7)=(-2) then some (some (.int (-2)),S) else f1 (9,43,[.ref 0,.int x1,.int x2,.int 0],[],S):=Jd h rfl rfl<|Jj h rfl (S 0 1)<|Js h rfl (Jc h rfl k_m1<|Ji h rfl) (Jd h rfl rfl<|Jj h rfl (S 0 7)<|Jc h rfl k_m2<|Jp h rfl (Jc h rfl k_m2<|Ji h rfl) (Jc h rfl k_0<|Je h rfl [.ref 0,.int x1,.int x2,.int 0] rfl))
theorem e1_9_43{f1}(h:Fx f1)(x1 x2 x3:Int32)(S):f1 (9,43,[.ref 0,.int x1,.int x2,.int x3],[],S)=if x3<x2 then (f1 (63,0,[.ref 0],[],S)).bind fun q=>f1 (9,52,[.ref 0,.int x1,.int x2,.int x3],q.1.toList++[],q.2) else some (some (.int (S 0 7)),S):=Jb h rfl rfl<|Jb h rfl rfl<|Jm h rfl (Jd h rfl rfl<|Jf h rfl rfl) (Jd h rfl rfl<|Jj h rfl (S 0 7)<|Ji h rfl)
theorem e1_9_52{f1}(h:Fx f1)(x1 x2 x3:Int32)(S):f1 (9,52,[.ref 0,.int x1,.int x2,.int x3],[],S)=if (S 0 7)=(-2) then some (some (.int (S 0 7)),S) else (f1 (20,0,[.ref 0,.int (S 0 7)],[],S)).bind fun q=>f1 (9,69,[.ref 0,.int x1,.int x2,.int x3],q.1.toList++[],q.2):=Jd h rfl rfl<|Jj h rfl (S 0 7)<|Jc h rfl k_m2<|JA h rfl (Jd h rfl rfl<|Jj h rfl (S 0 7)<|Ji h rfl) (Jd h rfl rfl<|Jd h rfl rfl<|Jj h rfl (S 0 7)<|Jf h rfl rfl)
theorem e1_9_69{f1}(h:Fx f1)(x1 x2 x3 y0:Int32)(S):f1 (9,69,[.ref 0,.int x1,.int x2,.int x3],[.int y0],S)=if y0=0 then f1 (9,43,[.ref 0,.int x1,.int x2,.int (x3+1)],[],S) else some (some (.int (S 0 7)),S):=Jy h rfl (Jn h rfl k_1 rfl [.ref 0,.int x1,.int x2,.int (x3+1)]<|Jh h rfl rfl) (Jh h rfl<|Jd h rfl rfl<|Jj h rfl (S 0 7)<|Ji h rfl)
theorem e1_10_0{f1}(h:Fx f1)(S):f1 (10,0,[.ref 0],[],S)=if (S 0 1)=0 then some (some (.int 0),S) else (f1 (19,0,[.ref 0],[],S)).bind fun q=>f1 (10,13,[.ref 0],q.1.toList++[],q.2):=Jd h rfl rfl<|Jj h rfl (S 0 1)<|Js h rfl (Jc h rfl k_0<|Jl h rfl) (Jd h rfl rfl<|Jf h rfl rfl)
theorem e1_10_13{f1}(h:Fx f1)(S):f1 (10,13,[.ref 0],[],S)=some (some (.int 1),S):=Jc h rfl k_1<|JC h rfl
theorem e1_20_0{f1}(h:Fx f1)(x1:Int32)(S):f1 (20,0,[.ref 0,.int x1],[],S)=if x1<0 then some (some (.int 0),S) else if x1<(S 0 4) then if x1<32 then if inb x1 32=true then some (some (.int ((S 16 (x1).toNatClampNeg)&&&1)),S) else none else some (some (.int 0),S) else some (some (.int 0),S):=Jb h rfl rfl<|JB h rfl (Jc h rfl k_0<|Jl h rfl) (Jb h rfl rfl<|Jd h rfl rfl<|Jj h rfl (S 0 4)<|Jm h rfl (Jb h rfl rfl<|Jc h rfl k_32<|JK h rfl (Jd h rfl rfl<|Jg h rfl<|Jb h rfl rfl<|J3 h rfl rfl (S 16 (x1).toNatClampNeg) fun i0=>J6 h rfl) (Jc h rfl k_0<|Jl h rfl)) (Jc h rfl k_0<|Jl h rfl))
theorem e1_47_0{f1}(h:Fx f1)(x1:Int32)(S):f1 (47,0,[.ref 0,.int x1],[],S)=if x1<0 then some (none,S) else if x1<96 then if inb x1 96=true then if (S 27 (x1).toNatClampNeg)=3 then if inb ((S 28 (x1).toNatClampNeg)&&&7) 8=true then if (S 29 (((S 28 (x1).toNatClampNeg)&&&7)).toNatClampNeg)=x1 then some (none,(upd S 29 (((S 28 (x1).toNatClampNeg)&&&7)).toNatClampNeg (-1))) else some (none,S) else none else some (none,S) else none else some (none,S):=Jb h rfl rfl<|JB h rfl (Jk h rfl) (Jb h rfl rfl<|Jc h rfl k_96<|JK h rfl (Jd h rfl rfl<|Jg h rfl<|Jb h rfl rfl<|Jo h rfl rfl (S 27 (x1).toNatClampNeg) fun i0=>Jc h rfl k_3<|Jp h rfl (Jd h rfl rfl<|Jg h rfl<|Jb h rfl rfl<|JF h rfl rfl i0 (S 28 (x1).toNatClampNeg)<|Jc h rfl k_7<|Ju h rfl<|Je h rfl [.ref 0,.int x1,.int ((S 28 (x1).toNatClampNeg)&&&7)]<|Jd h rfl rfl<|Jg h rfl<|Jb h rfl rfl<|Jo h rfl rfl (S 29 (((S 28 (x1).toNatClampNeg)&&&7)).toNatClampNeg) fun i1=>Jb h rfl rfl<|Jp h rfl (Jd h rfl rfl<|Jg h rfl<|Jb h rfl rfl<|Jc h rfl k_m1<|Jx h rfl rfl (-1) i1<|Jr h rfl<|Jk h rfl) (Jr h rfl<|Jk h rfl)) (Jk h rfl)) (Jk h rfl))
theorem e1_45_0{f1}(h:Fx f1)(x1 x2:Int32)(S):f1 (45,0,[.ref 0,.int x1,.int x2],[],S)=(f1 (47,0,[.ref 0,.int x1],[],S)).bind fun q=>f1 (45,5,[.ref 0,.int x1,.int x2],q.1.toList++[],q.2):=Jd h rfl rfl<|Jb h rfl rfl<|Jf h rfl rfl
theorem e1_45_5{f1}(h:Fx f1)(x1 x2:Int32)(S):f1 (45,5,[.ref 0,.int x1,.int x2],[],S)=(f1 (47,0,[.ref 0,.int x2],[],S)).bind fun q=>f1 (45,10,[.ref 0,.int x1,.int x2],q.1.toList++[],q.2):=Jd h rfl rfl<|Jb h rfl rfl<|Jf h rfl rfl
theorem e1_45_10{f1}(h:Fx f1)(x1 x2:Int32)(S):f1 (45,10,[.ref 0,.int x1,.int x2],[],S)=if inb x1 96=true then some (none,(upd (upd (upd S 27 (x1).toNatClampNeg 1) 28 (x1).toNatClampNeg 0) 0 14 ((S 0 14)-1))) else none:=Jd h rfl rfl<|Jg h rfl<|Jb h rfl rfl<|Jc h rfl k_1<|Jv h rfl rfl 1 fun i0=>Jd h rfl rfl<|Jg h rfl<|Jb h rfl rfl<|Jc h rfl k_0<|Jx h rfl rfl 0 i0<|Jd h rfl rfl<|JO h rfl<|Jj h rfl (S 0 14)<|Jc h rfl k_1<|JG h rfl<|Jw h rfl<|Jk h rfl
theorem e2_0_0{f1 f2 xs}(h:Fy xs f1 f2):f2 (0,0,[.ref 0],[],(false,[]))=(f2 (1,0,[.ref 0,.int 0],[],(true,[]))).bind fun q=>f2 (0,10,[.ref 0],q.1.toList++[.int 2,.ref 1,.ref 1],q.2):=JY h rfl<|JO h rfl<|Jc h rfl k_2<|Jd h rfl rfl<|Jc h rfl k_0<|JE h rfl rfl
theorem e2_0_10{f1 f2 xs}(h:Fy xs f1 f2)(y0 y1:Int32):f2 (0,10,[.ref 0],[.int y0,.int y1,.ref 1,.ref 1],(true,[]))=(f1 (0,431,[.ref 0,.int (y1+((XT.ushr y0 4)%7))],[],iniS iv1)).bind fun q=>f2 (0,19,[.ref 0],[.ref 1],(false,[q.2])):=Jc h rfl k_4<|JR h rfl<|Jc h rfl k_7<|JX h rfl (by decide)<|Jt h rfl<|J0 h rfl rfl
theorem e2_0_19{f1 f2 xs}(h:Fy xs f1 f2)(S0):f2 (0,19,[.ref 0],[.ref 1],(false,[S0]))=(f2 (1,0,[.ref 0,.int 0],[],(false,[S0]))).bind fun q=>f2 (0,28,[.ref 0,.ref 1,.int 1],q.1.toList++[.int 1],q.2):=Jaa h rfl [.ref 0,.ref 1]<|Jc h rfl k_1<|Je h rfl [.ref 0,.ref 1,.int 1]<|Jc h rfl k_1<|Jd h rfl rfl<|Jc h rfl k_0<|JE h rfl rfl
theorem e2_0_28{f1 f2 xs}(h:Fy xs f1 f2)(x2 y0 y1:Int32)(S0):f2 (0,28,[.ref 0,.ref 1,.int x2],[.int y0,.int y1],(false,[S0]))=f2 (0,60,[.ref 0,.ref 1,.int x2,.int (y1+((y0&&&15)%14)),.int 0,.int 0,.int 0,.int 0,.int 0,.int 0,.int 1,.int 0],[],(false,[S0])):=Jc h rfl k_15<|Ju h rfl<|Jc h rfl k_14<|JX h rfl (by decide)<|Jt h rfl<|Je h rfl [.ref 0,.ref 1,.int x2,.int (y1+((y0&&&15)%14))]<|Jc h rfl k_0<|Je h rfl [.ref 0,.ref 1,.int x2,.int (y1+((y0&&&15)%14)),.int 0]<|Jc h rfl k_0<|Je h rfl [.ref 0,.ref 1,.int x2,.int (y1+((y0&&&15)%14)),.int 0,.int 0]<|Jc h rfl k_0<|Je h rfl [.ref 0,.ref 1,.int x2,.int (y1+((y0&&&15)%14)),.int 0,.int 0,.int 0]<|Jc h rfl k_0<|Je h rfl [.ref 0,.ref 1,.int x2,.int (y1+((y0&&&15)%14)),.int 0,.int 0,.int 0,.int 0]<|Jc h rfl k_0<|Je h rfl [.ref 0,.ref 1,.int x2,.int (y1+((y0&&&15)%14)),.int 0,.int 0,.int 0,.int 0,.int 0]<|Jc h rfl k_0<|Je h rfl [.ref 0,.ref 1,.int x2,.int (y1+((y0&&&15)%14)),.int 0,.int 0,.int 0,.int 0,.int 0,.int 0]<|Jc h rfl k_1<|Je h rfl [.ref 0,.ref 1,.int x2,.int (y1+((y0&&&15)%14)),.int 0,.int 0,.int 0,.int 0,.int 0,.int 0,.int 1]<|Jc h rfl k_0<|Je h rfl [.ref 0,.ref 1,.int x2,.int (y1+((y0&&&15)%14)),.int 0,.int 0,.int 0,.int 0,.int 0,.int 0,.int 1,.int 0] rfl
theorem e2_0_60{f1 f2 xs}(h:Fy xs f1 f2)(x2 x3 x4 x5 x6 x7 x8 x9 x10 x11:Int32)(S0):f2 (0,60,[.ref 0,.ref 1,.int x2,.int x3,.int x4,.int x5,.int x6,.int x7,.int x8,.int x9,.int x10,.int x11],[],(false,[S0]))=if x11<x3 then (f2 (1,0,[.ref 0,.int x2],[],(false,[S0]))).bind fun q=>f2 (0,74,[.ref 0,.ref 1,.int (x2+1),.int x3,.int x4,.int x5,.int x6,.int x7,.int x8,.int x9,.int x10,.int x11],q.1.toList++[],q.2) else f2 (0,461,[.ref 0,.ref 1,.int x2,.int x3,.int x4,.int x5,.int x6,.int x7,.int x8,.int x9,.int x10,.int x11],[],(false,[S0])):=Jb h rfl rfl<|Jb h rfl rfl<|Jm h rfl (Jd h rfl rfl<|Jb h rfl rfl<|Jn h rfl k_1 rfl [.ref 0,.ref 1,.int (x2+1),.int x3,.int x4,.int x5,.int x6,.int x7,.int x8,.int x9,.int x10,.int x11]<|JE h rfl rfl) rfl
theorem e2_0_74{f1 f2 xs}(h:Fy xs f1 f2)(x2 x3 x4 x5 x6 x7 x8 x9 x10 x11 y0:Int32)(S0):f2 (0,74,[.ref 0,.ref 1,.int x2,.int x3,.int x4,.int x5,.int x6,.int x7,.int x8,.int x9,.int x10,.int x11],[.int y0],(false,[S0]))=if 0<x4 then if (y0&&&3)=0 then (f1 (1,0,[.ref 0,.int 15,.int 0],[],S0)).bind fun q=>f2 (0,97,[.ref 0,.ref 1,.int x2,.int x3,.int x4,.int x5,.int x6,.int x7,.int x8,.int x9,.int x10,.int x11,.int y0],q.1.toList++[.int x10],(false,[q.2])) else (f2 (1,0,[.ref 0,.int x2],[],(false,[S0]))).bind fun q=>f2 (0,114,[.ref 0,.ref 1,.int (x2+1),.int x3,.int x4,.int x5,.int x6,.int x7,.int x8,.int x9,.int x10,.int x11,.int y0],q.1.toList++[],q.2) else (f2 (1,0,[.ref 0,.int x2],[],(false,[S0]))).bind fun q=>f2 (0,114,[.ref 0,.ref 1,.int (x2+1),.int x3,.int x4,.int x5,.int x6,.int x7,.int x8,.int x9,.int x10,.int x11,.int y0],q.1.toList++[],q.2):=Je h rfl [.ref 0,.ref 1,.int x2,.int x3,.int x4,.int x5,.int x6,.int x7,.int x8,.int x9,.int x10,.int x11,.int y0]<|Jb h rfl rfl<|Jac h rfl (Jb h rfl rfl<|Jc h rfl k_3<|Ju h rfl<|Js h rfl (Jb h rfl rfl<|Jd h rfl rfl<|Jc h rfl k_15<|Jc h rfl k_0<|Jq h 0 rfl rfl rfl) (Jd h rfl rfl<|Jb h rfl rfl<|Jn h rfl k_1 rfl [.ref 0,.ref 1,.int (x2+1),.int x3,.int x4,.int x5,.int x6,.int x7,.int x8,.int x9,.int x10,.int x11,.int y0]<|JE h rfl rfl)) (Jd h rfl rfl<|Jb h rfl rfl<|Jn h rfl k_1 rfl [.ref 0,.ref 1,.int (x2+1),.int x3,.int x4,.int x5,.int x6,.int x7,.int x8,.int x9,.int x10,.int x11,.int y0]<|JE h rfl rfl)
theorem e2_0_97{f1 f2 xs}(h:Fy xs f1 f2)(x2 x3 x4 x5 x6 x7 x8 x9 x10 x11 x12 y0 y1:Int32)(S0):f2 (0,97,[.ref 0,.ref 1,.int x2,.int x3,.int x4,.int x5,.int x6,.int x7,.int x8,.int x9,.int x10,.int x11,.int x12],[.int y0,.int y1],(false,[S0]))=f2 (0,60,[.ref 0,.ref 1,.int x2,.int x3,.int (x4+(-1)),.int x5,.int x6,.int x7,.int x8,.int x9,.int (y1&&&y0),.int (x11+1)],[],(false,[S0])):=Ju h rfl<|Je h rfl [.ref 0,.ref 1,.int x2,.int x3,.int x4,.int x5,.int x6,.int x7,.int x8,.int x9,.int (y1&&&y0),.int x11,.int x12]<|Jn h rfl k_m1 rfl [.ref 0,.ref 1,.int x2,.int x3,.int (x4+(-1)),.int x5,.int x6,.int x7,.int x8,.int x9,.int (y1&&&y0),.int x11,.int x12]<|Jh h rfl<|Jn h rfl k_1 rfl [.ref 0,.ref 1,.int x2,.int x3,.int (x4+(-1)),.int x5,.int x6,.int x7,.int x8,.int x9,.int (y1&&&y0),.int (x11+1),.int x12]<|Jh h rfl<|Jr h rfl rfl
theorem e2_0_114{f1 f2 xs}(h:Fy xs f1 f2)(x2 x3 x4 x5 x6 x7 x8 x9 x10 x11 x12 y0:Int32)(S0):f2 (0,114,[.ref 0,.ref 1,.int x2,.int x3,.int x4,.int x5,.int x6,.int x7,.int x8,.int x9,.int x10,.int x11,.int x12],[.int y0],(false,[S0]))=if x4<3 then if (x12&&&3)=1 then if (x12&&&4)=0 then (f1 (1,0,[.ref 0,.int 16,.int 0],[],S0)).bind fun q=>f2 (0,169,[.ref 0,.ref 1,.int x2,.int x3,.int x4,.int x5,.int x6,.int x7,.int x8,.int x9,.int x10,.int x11,.int x12,.int y0,.int (y0&&&7),.int (((XT.ushr y0 3)%9)-4)],q.1.toList++[.int x10],(false,[q.2])) else (f1 (1,0,[.ref 0,.int 17,.int 0],[],S0)).bind fun q=>f2 (0,169,[.ref 0,.ref 1,.int x2,.int x3,.int x4,.int x5,.int x6,.int x7,.int x8,.int x9,.int x10,.int x11,.int x12,.int y0,.int (y0&&&7),.int (((XT.ushr y0 3)%9)-4)],q.1.toList++[.int x10],(false,[q.2])) else f2 (0,246,[.ref 0,.ref 1,.int x2,.int x3,.int x4,.int x5,.int x6,.int x7,.int x8,.int x9,.int x10,.int x11,.int x12,.int y0,.int (y0&&&7),.int (((XT.ushr y0 3)%9)-4)],[],(false,[S0])) else f2 (0,246,[.ref 0,.ref 1,.int x2,.int x3,.int x4,.int x5,.int x6,.int x7,.int x8,.int x9,.int x10,.int x11,.int x12,.int y0,.int (y0&&&7),.int (((XT.ushr y0 3)%9)-4)],[],(false,[S0])):=Je h rfl [.ref 0,.ref 1,.int x2,.int x3,.int x4,.int x5,.int x6,.int x7,.int x8,.int x9,.int x10,.int x11,.int x12,.int y0]<|Jb h rfl rfl<|Jc h rfl k_7<|Ju h rfl<|Je h rfl [.ref 0,.ref 1,.int x2,.int x3,.int x4,.int x5,.int x6,.int x7,.int x8,.int x9,.int x10,.int x11,.int x12,.int y0,.int (y0&&&7)]<|Jb h rfl rfl<|Jc h rfl k_3<|JR h rfl<|Jc h rfl k_9<|JX h rfl (by decide)<|Jc h rfl k_4<|JG h rfl<|Je h rfl [.ref 0,.ref 1,.int x2,.int x3,.int x4,.int x5,.int x6,.int x7,.int x8,.int x9,.int x10,.int x11,.int x12,.int y0,.int (y0&&&7),.int (((XT.ushr y0 3)%9)-4)]<|Jb h rfl rfl<|Jc h rfl k_3<|Jm h rfl (Jb h rfl rfl<|Jc h rfl k_3<|Ju h rfl<|Jc h rfl k_1<|Jp h rfl (Jb h rfl rfl<|Jd h rfl rfl<|Jb h rfl rfl<|Jc h rfl k_4<|Ju h rfl<|Js h rfl (Jc h rfl k_16<|Jh h rfl<|Jc h rfl k_0<|Jq h 0 rfl rfl rfl) (Jc h rfl k_17<|Jc h rfl k_0<|Jq h 0 rfl rfl rfl)) rfl) rfl
theorem e2_0_169{f1 f2 xs}(h:Fy xs f1 f2)(x2 x3 x4 x5 x6 x7 x8 x9 x10 x11 x12 x13 x14 x15 y0 y1:Int32)(S0):f2 (0,169,[.ref 0,.ref 1,.int x2,.int x3,.int x4,.int x5,.int x6,.int x7,.int x8,.int x9,.int x10,.int x11,.int x12,.int x13,.int x14,.int x15],[.int y0,.int y1],(false,[S0]))=(f1 (1,0,[.ref 0,.int 2,.int x14],[],S0)).bind fun q=>f2 (0,181,[.ref 0,.ref 1,.int x2,.int x3,.int x4,.int x5,.int x6,.int x7,.int x8,.int x9,.int (y1&&&y0),.int x11,.int x12,.int x13,.int x14,.int x15],q.1.toList++[.int (y1&&&y0)],(false,[q.2])):=Ju h rfl<|Je h rfl [.ref 0,.ref 1,.int x2,.int x3,.int x4,.int x5,.int x6,.int x7,.int x8,.int x9,.int (y1&&&y0),.int x11,.int x12,.int x13,.int x14,.int x15]<|Jb h rfl rfl<|Jd h rfl rfl<|Jc h rfl k_2<|Jb h rfl rfl<|Jq h 0 rfl rfl rfl
theorem e2_0_181{f1 f2 xs}(h:Fy xs f1 f2)(x2 x3 x4 x5 x6 x7 x8 x9 x10 x11 x12 x13 x14 x15 y0 y1:Int32)(S0):f2 (0,181,[.ref 0,.ref 1,.int x2,.int x3,.int x4,.int x5,.int x6,.int x7,.int x8,.int x9,.int x10,.int x11,.int x12,.int x13,.int x14,.int x15],[.int y0,.int y1],(false,[S0]))=if ((XT.ushr x13 7)&&&1)=0 then (f1 (1,0,[.ref 0,.int 10,.int 0],[],S0)).bind fun q=>f2 (0,208,[.ref 0,.ref 1,.int x2,.int x3,.int x4,.int x5,.int x6,.int x7,.int x8,.int x9,.int (y1&&&y0),.int x11,.int x12,.int x13,.int x14,.int x15],q.1.toList++[.int (y1&&&y0)],(false,[q.2])) else (f1 (1,0,[.ref 0,.int 11,.int 0],[],S0)).bind fun q=>f2 (0,208,[.ref 0,.ref 1,.int x2,.int x3,.int x4,.int x5,.int x6,.int x7,.int x8,.int x9,.int (y1&&&y0),.int x11,.int x12,.int x13,.int x14,.int x15],q.1.toList++[.int (y1&&&y0)],(false,[q.2])):=Ju h rfl<|Je h rfl [.ref 0,.ref 1,.int x2,.int x3,.int x4,.int x5,.int x6,.int x7,.int x8,.int x9,.int (y1&&&y0),.int x11,.int x12,.int x13,.int x14,.int x15]<|Jb h rfl rfl<|Jd h rfl rfl<|Jb h rfl rfl<|Jc h rfl k_7<|JR h rfl<|Jc h rfl k_1<|Ju h rfl<|Js h rfl (Jc h rfl k_10<|Jh h rfl<|Jc h rfl k_0<|Jq h 0 rfl rfl rfl) (Jc h rfl k_11<|Jc h rfl k_0<|Jq h 0 rfl rfl rfl)
theorem e2_0_208{f1 f2 xs}(h:Fy xs f1 f2)(x2 x3 x4 x5 x6 x7 x8 x9 x10 x11 x12 x13 x14 x15 y0 y1:Int32)(S0):f2 (0,208,[.ref 0,.ref 1,.int x2,.int x3,.int x4,.int x5,.int x6,.int x7,.int x8,.int x9,.int x10,.int x11,.int x12,.int x13,.int x14,.int x15],[.int y0,.int y1],(false,[S0]))=(f1 (1,0,[.ref 0,.int 1,.int (x15+4)],[],S0)).bind fun q=>f2 (0,222,[.ref 0,.ref 1,.int x2,.int x3,.int x4,.int x5,.int x6,.int x7,.int x8,.int x9,.int (y1&&&y0),.int x11,.int x12,.int x13,.int x14,.int x15],q.1.toList++[.int (y1&&&y0)],(false,[q.2])):=Ju h rfl<|Je h rfl [.ref 0,.ref 1,.int x2,.int x3,.int x4,.int x5,.int x6,.int x7,.int x8,.int x9,.int (y1&&&y0),.int x11,.int x12,.int x13,.int x14,.int x15]<|Jb h rfl rfl<|Jd h rfl rfl<|Jc h rfl k_1<|Jb h rfl rfl<|Jc h rfl k_4<|Jt h rfl<|Jq h 0 rfl rfl rfl
theorem e2_0_222{f1 f2 xs}(h:Fy xs f1 f2)(x2 x3 x4 x5 x6 x7 x8 x9 x10 x11 x12 x13 x14 x15 y0 y1:Int32)(S0):f2 (0,222,[.ref 0,.ref 1,.int x2,.int x3,.int x4,.int x5,.int x6,.int x7,.int x8,.int x9,.int x10,.int x11,.int x12,.int x13,.int x14,.int x15],[.int y0,.int y1],(false,[S0]))=(f1 (1,0,[.ref 0,.int 14,.int 0],[],S0)).bind fun q=>f2 (0,234,[.ref 0,.ref 1,.int x2,.int x3,.int x4,.int x5,.int x6,.int x7,.int x8,.int x9,.int (y1&&&y0),.int x11,.int x12,.int x13,.int x14,.int x15],q.1.toList++[.int (y1&&&y0)],(false,[q.2])):=Ju h rfl<|Je h rfl [.ref 0,.ref 1,.int x2,.int x3,.int x4,.int x5,.int x6,.int x7,.int x8,.int x9,.int (y1&&&y0),.int x11,.int x12,.int x13,.int x14,.int x15]<|Jb h rfl rfl<|Jd h rfl rfl<|Jc h rfl k_14<|Jc h rfl k_0<|Jq h 0 rfl rfl rfl
theorem e2_0_234{f1 f2 xs}(h:Fy xs f1 f2)(x2 x3 x4 x5 x6 x7 x8 x9 x10 x11 x12 x13 x14 x15 y0 y1:Int32)(S0):f2 (0,234,[.ref 0,.ref 1,.int x2,.int x3,.int x4,.int x5,.int x6,.int x7,.int x8,.int x9,.int x10,.int x11,.int x12,.int x13,.int x14,.int x15],[.int y0,.int y1],(false,[S0]))=f2 (0,60,[.ref 0,.ref 1,.int x2,.int x3,.int (x4+1),.int (x5+1),.int x6,.int x7,.int x8,.int x9,.int (y1&&&y0),.int (x11+1)],[],(false,[S0])):=Ju h rfl<|Je h rfl [.ref 0,.ref 1,.int x2,.int x3,.int x4,.int x5,.int x6,.int x7,.int x8,.int x9,.int (y1&&&y0),.int x11,.int x12,.int x13,.int x14,.int x15]<|Jn h rfl k_1 rfl [.ref 0,.ref 1,.int x2,.int x3,.int (x4+1),.int x5,.int x6,.int x7,.int x8,.int x9,.int (y1&&&y0),.int x11,.int x12,.int x13,.int x14,.int x15]<|Jn h rfl k_1 rfl [.ref 0,.ref 1,.int x2,.int x3,.int (x4+1),.int (x5+1),.int x6,.int x7,.int x8,.int x9,.int (y1&&&y0),.int x11,.int x12,.int x13,.int x14,.int x15]<|Jh h rfl<|Jr h rfl<|Jn h rfl k_1 rfl [.ref 0,.ref 1,.int x2,.int x3,.int (x4+1),.int (x5+1),.int x6,.int x7,.int x8,.int x9,.int (y1&&&y0),.int (x11+1),.int x12]<|Jh h rfl<|Jr h rfl rfl
theorem e2_0_246{f1 f2 xs}(h:Fy xs f1 f2)(x2 x3 x4 x5 x6 x7 x8 x9 x10 x11 x12 x13 x14 x15:Int32)(S0):f2 (0,246,[.ref 0,.ref 1,.int x2,.int x3,.int x4,.int x5,.int x6,.int x7,.int x8,.int x9,.int x10,.int x11,.int x12,.int x13,.int x14,.int x15],[],(false,[S0]))=if (((XT.ushr x12 3)&&&7)&&&1)=0 then f2 (0,280,[.ref 0,.ref 1,.int x2,.int x3,.int x4,.int x5,.int (x6|||(1<<<(x5&&&31))),.int x7,.int x8,.int x9,.int x10,.int x11,.int x12,.int x13,.int x14,.int x15,.int ((XT.ushr x12 3)&&&7)],[],(false,[S0])) else f2 (0,280,[.ref 0,.ref 1,.int x2,.int x3,.int x4,.int x5,.int (x6|||(1<<<(x5&&&31))),.int (x7|||(1<<<(x5&&&31))),.int x8,.int x9,.int x10,.int x11,.int x12,.int x13,.int x14,.int x15,.int ((XT.ushr x12 3)&&&7)],[],(false,[S0])):=Jb h rfl rfl<|Jc h rfl k_3<|JR h rfl<|Jc h rfl k_7<|Ju h rfl<|Je h rfl [.ref 0,.ref 1,.int x2,.int x3,.int x4,.int x5,.int x6,.int x7,.int x8,.int x9,.int x10,.int x11,.int x12,.int x13,.int x14,.int x15,.int ((XT.ushr x12 3)&&&7)]<|Jb h rfl rfl<|Jc h rfl k_1<|Jb h rfl rfl<|JJ h rfl<|JZ h rfl<|Je h rfl [.ref 0,.ref 1,.int x2,.int x3,.int x4,.int x5,.int (x6|||(1<<<(x5&&&31))),.int x7,.int x8,.int x9,.int x10,.int x11,.int x12,.int x13,.int x14,.int x15,.int ((XT.ushr x12 3)&&&7)]<|Jb h rfl rfl<|Jc h rfl k_1<|Ju h rfl<|Jy h rfl rfl (Jb h rfl rfl<|Jc h rfl k_1<|Jb h rfl rfl<|JJ h rfl<|JZ h rfl<|Je h rfl [.ref 0,.ref 1,.int x2,.int x3,.int x4,.int x5,.int (x6|||(1<<<(x5&&&31))),.int (x7|||(1<<<(x5&&&31))),.int x8,.int x9,.int x10,.int x11,.int x12,.int x13,.int x14,.int x15,.int ((XT.ushr x12 3)&&&7)] rfl)
theorem e2_0_280{f1 f2 xs}(h:Fy xs f1 f2)(x2 x3 x4 x5 x6 x7 x8 x9 x10 x11 x12 x13 x14 x15 x16:Int32)(S0):f2 (0,280,[.ref 0,.ref 1,.int x2,.int x3,.int x4,.int x5,.int x6,.int x7,.int x8,.int x9,.int x10,.int x11,.int x12,.int x13,.int x14,.int x15,.int x16],[],(false,[S0]))=if (x16&&&2)=0 then f2 (0,296,[.ref 0,.ref 1,.int x2,.int x3,.int x4,.int x5,.int x6,.int x7,.int x8,.int x9,.int x10,.int x11,.int x12,.int x13,.int x14,.int x15,.int x16],[],(false,[S0])) else f2 (0,296,[.ref 0,.ref 1,.int x2,.int x3,.int x4,.int x5,.int x6,.int x7,.int (x8|||(1<<<(x5&&&31))),.int x9,.int x10,.int x11,.int x12,.int x13,.int x14,.int x15,.int x16],[],(false,[S0])):=Jb h rfl rfl<|Jc h rfl k_2<|Ju h rfl<|Jy h rfl rfl (Jb h rfl rfl<|Jc h rfl k_1<|Jb h rfl rfl<|JJ h rfl<|JZ h rfl<|Je h rfl [.ref 0,.ref 1,.int x2,.int x3,.int x4,.int x5,.int x6,.int x7,.int (x8|||(1<<<(x5&&&31))),.int x9,.int x10,.int x11,.int x12,.int x13,.int x14,.int x15,.int x16] rfl)
theorem e2_0_296{f1 f2 xs}(h:Fy xs f1 f2)(x2 x3 x4 x5 x6 x7 x8 x9 x10 x11 x12 x13 x14 x15 x16:Int32)(S0):f2 (0,296,[.ref 0,.ref 1,.int x2,.int x3,.int x4,.int x5,.int x6,.int x7,.int x8,.int x9,.int x10,.int x11,.int x12,.int x13,.int x14,.int x15,.int x16],[],(false,[S0]))=if (x16&&&4)=0 then (f1 (1,0,[.ref 0,.int 2,.int x16],[],S0)).bind fun q=>f2 (0,321,[.ref 0,.ref 1,.int x2,.int x3,.int x4,.int x5,.int x6,.int x7,.int x8,.int x9,.int x10,.int x11,.int x12,.int x13,.int x14,.int x15,.int x16],q.1.toList++[.int x10],(false,[q.2])) else (f1 (1,0,[.ref 0,.int 2,.int x16],[],S0)).bind fun q=>f2 (0,321,[.ref 0,.ref 1,.int x2,.int x3,.int x4,.int x5,.int x6,.int x7,.int x8,.int (x9|||(1<<<(x5&&&31))),.int x10,.int x11,.int x12,.int x13,.int x14,.int x15,.int x16],q.1.toList++[.int x10],(false,[q.2])):=Jb h rfl rfl<|Jc h rfl k_4<|Ju h rfl<|Jy h rfl (Jb h rfl rfl<|Jd h rfl rfl<|Jc h rfl k_2<|Jb h rfl rfl<|Jq h 0 rfl rfl rfl) (Jb h rfl rfl<|Jc h rfl k_1<|Jb h rfl rfl<|JJ h rfl<|JZ h rfl<|Je h rfl [.ref 0,.ref 1,.int x2,.int x3,.int x4,.int x5,.int x6,.int x7,.int x8,.int (x9|||(1<<<(x5&&&31))),.int x10,.int x11,.int x12,.int x13,.int x14,.int x15,.int x16]<|Jb h rfl rfl<|Jd h rfl rfl<|Jc h rfl k_2<|Jb h rfl rfl<|Jq h 0 rfl rfl rfl)
theorem e2_0_321{f1 f2 xs}(h:Fy xs f1 f2)(x2 x3 x4 x5 x6 x7 x8 x9 x10 x11 x12 x13 x14 x15 x16 y0 y1:Int32)(S0):f2 (0,321,[.ref 0,.ref 1,.int x2,.int x3,.int x4,.int x5,.int x6,.int x7,.int x8,.int x9,.int x10,.int x11,.int x12,.int x13,.int x14,.int x15,.int x16],[.int y0,.int y1],(false,[S0]))=(f1 (1,0,[.ref 0,.int 3,.int 0],[],S0)).bind fun q=>f2 (0,332,[.ref 0,.ref 1,.int x2,.int x3,.int x4,.int x5,.int x6,.int x7,.int x8,.int x9,.int (y1&&&y0),.int x11,.int x12,.int x13,.int x14,.int x15,.int x16],q.1.toList++[.int (y1&&&y0)],(false,[q.2])):=Ju h rfl<|Je h rfl [.ref 0,.ref 1,.int x2,.int x3,.int x4,.int x5,.int x6,.int x7,.int x8,.int x9,.int (y1&&&y0),.int x11,.int x12,.int x13,.int x14,.int x15,.int x16]<|Jb h rfl rfl<|Jd h rfl rfl<|Jc h rfl k_3<|Jc h rfl k_0<|Jq h 0 rfl rfl rfl
theorem e2_0_332{f1 f2 xs}(h:Fy xs f1 f2)(x2 x3 x4 x5 x6 x7 x8 x9 x10 x11 x12 x13 x14 x15 x16 y0 y1:Int32)(S0):f2 (0,332,[.ref 0,.ref 1,.int x2,.int x3,.int x4,.int x5,.int x6,.int x7,.int x8,.int x9,.int x10,.int x11,.int x12,.int x13,.int x14,.int x15,.int x16],[.int y0,.int y1],(false,[S0]))=if ((XT.ushr x13 8)&&&3)=0 then (f1 (1,0,[.ref 0,.int 1,.int x15],[],S0)).bind fun q=>f2 (0,358,[.ref 0,.ref 1,.int x2,.int x3,.int x4,.int x5,.int x6,.int x7,.int x8,.int x9,.int (y1&&&y0),.int x11,.int x12,.int x13,.int x14,.int x15,.int x16,.int ((XT.ushr x13 8)&&&3)],q.1.toList++[.int (y1&&&y0)],(false,[q.2])) else (f1 (1,0,[.ref 0,.int 2,.int x14],[],S0)).bind fun q=>f2 (0,373,[.ref 0,.ref 1,.int x2,.int x3,.int x4,.int x5,.int x6,.int x7,.int x8,.int x9,.int (y1&&&y0),.int x11,.int x12,.int x13,.int x14,.int x15,.int x16,.int ((XT.ushr x13 8)&&&3)],q.1.toList++[.int (y1&&&y0)],(false,[q.2])):=Ju h rfl<|Je h rfl [.ref 0,.ref 1,.int x2,.int x3,.int x4,.int x5,.int x6,.int x7,.int x8,.int x9,.int (y1&&&y0),.int x11,.int x12,.int x13,.int x14,.int x15,.int x16]<|Jb h rfl rfl<|Jc h rfl k_8<|JR h rfl<|Jc h rfl k_3<|Ju h rfl<|Je h rfl [.ref 0,.ref 1,.int x2,.int x3,.int x4,.int x5,.int x6,.int x7,.int x8,.int x9,.int (y1&&&y0),.int x11,.int x12,.int x13,.int x14,.int x15,.int x16,.int ((XT.ushr x13 8)&&&3)]<|Jb h rfl rfl<|Js h rfl (Jb h rfl rfl<|Jd h rfl rfl<|Jc h rfl k_1<|Jb h rfl rfl<|Jq h 0 rfl rfl rfl) (Jb h rfl rfl<|Jd h rfl rfl<|Jc h rfl k_2<|Jb h rfl rfl<|Jq h 0 rfl rfl rfl)
theorem e2_0_358{f1 f2 xs}(h:Fy xs f1 f2)(x2 x3 x4 x5 x6 x7 x8 x9 x10 x11 x12 x13 x14 x15 x16 x17 y0 y1:Int32)(S0):f2 (0,358,[.ref 0,.ref 1,.int x2,.int x3,.int x4,.int x5,.int x6,.int x7,.int x8,.int x9,.int x10,.int x11,.int x12,.int x13,.int x14,.int x15,.int x16,.int x17],[.int y0,.int y1],(false,[S0]))=(f1 (1,0,[.ref 0,.int 4,.int 0],[],S0)).bind fun q=>f2 (0,449,[.ref 0,.ref 1,.int x2,.int x3,.int x4,.int x5,.int x6,.int x7,.int x8,.int x9,.int (y1&&&y0),.int x11,.int x12,.int x13,.int x14,.int x15,.int x16,.int x17],q.1.toList++[.int (y1&&&y0)],(false,[q.2])):=Ju h rfl<|Je h rfl [.ref 0,.ref 1,.int x2,.int x3,.int x4,.int x5,.int x6,.int x7,.int x8,.int x9,.int (y1&&&y0),.int x11,.int x12,.int x13,.int x14,.int x15,.int x16,.int x17]<|Jh h rfl<|Jb h rfl rfl<|Jd h rfl rfl<|Jc h rfl k_4<|Jc h rfl k_0<|Jq h 0 rfl rfl rfl
theorem e2_0_373{f1 f2 xs}(h:Fy xs f1 f2)(x2 x3 x4 x5 x6 x7 x8 x9 x10 x11 x12 x13 x14 x15 x16 x17 y0 y1:Int32)(S0):f2 (0,373,[.ref 0,.ref 1,.int x2,.int x3,.int x4,.int x5,.int x6,.int x7,.int x8,.int x9,.int x10,.int x11,.int x12,.int x13,.int x14,.int x15,.int x16,.int x17],[.int y0,.int y1],(false,[S0]))=if x17<2 then (f1 (1,0,[.ref 0,.int 4,.int 0],[],S0)).bind fun q=>f2 (0,449,[.ref 0,.ref 1,.int x2,.int x3,.int x4,.int x5,.int x6,.int x7,.int x8,.int x9,.int (y1&&&y0),.int x11,.int x12,.int x13,.int x14,.int x15,.int x16,.int x17],q.1.toList++[.int (y1&&&y0)],(false,[q.2])) else (f2 (5,0,[.int ((XT.ushr x13 10)%5)],[],(false,[S0]))).bind fun q=>f2 (0,395,[.ref 0,.ref 1,.int x2,.int x3,.int x4,.int x5,.int x6,.int x7,.int x8,.int x9,.int (y1&&&y0),.int x11,.int x12,.int x13,.int x14,.int x15,.int x16,.int x17],q.1.toList++[.ref 1,.int (y1&&&y0)],q.2):=Ju h rfl<|Je h rfl [.ref 0,.ref 1,.int x2,.int x3,.int x4,.int x5,.int x6,.int x7,.int x8,.int x9,.int (y1&&&y0),.int x11,.int x12,.int x13,.int x14,.int x15,.int x16,.int x17]<|Jb h rfl rfl<|Jc h rfl k_2<|JK h rfl (Jb h rfl rfl<|Jd h rfl rfl<|Jc h rfl k_4<|Jc h rfl k_0<|Jq h 0 rfl rfl rfl) (Jb h rfl rfl<|Jd h rfl rfl<|Jb h rfl rfl<|Jc h rfl k_10<|JR h rfl<|Jc h rfl k_5<|JX h rfl (by decide)<|JE h rfl rfl)
theorem e2_0_395{f1 f2 xs}(h:Fy xs f1 f2)(x2 x3 x4 x5 x6 x7 x8 x9 x10 x11 x12 x13 x14 x15 x16 x17 y0 y2:Int32)(S0):f2 (0,395,[.ref 0,.ref 1,.int x2,.int x3,.int x4,.int x5,.int x6,.int x7,.int x8,.int x9,.int x10,.int x11,.int x12,.int x13,.int x14,.int x15,.int x16,.int x17],[.int y0,.ref 1,.int y2],(false,[S0]))=(f1 (1,0,[.ref 0,.int y0,.int 0],[],S0)).bind fun q=>f2 (0,399,[.ref 0,.ref 1,.int x2,.int x3,.int x4,.int x5,.int x6,.int x7,.int x8,.int x9,.int x10,.int x11,.int x12,.int x13,.int x14,.int x15,.int x16,.int x17],q.1.toList++[.int y2],(false,[q.2])):=Jc h rfl k_0<|Jq h 0 rfl rfl rfl
theorem e2_0_399{f1 f2 xs}(h:Fy xs f1 f2)(x2 x3 x4 x5 x6 x7 x8 x9 x10 x11 x12 x13 x14 x15 x16 x17 y0 y1:Int32)(S0):f2 (0,399,[.ref 0,.ref 1,.int x2,.int x3,.int x4,.int x5,.int x6,.int x7,.int x8,.int x9,.int x10,.int x11,.int x12,.int x13,.int x14,.int x15,.int x16,.int x17],[.int y0,.int y1],(false,[S0]))=if x17=2 then (f1 (1,0,[.ref 0,.int 1,.int x15],[],S0)).bind fun q=>f2 (0,417,[.ref 0,.ref 1,.int x2,.int x3,.int x4,.int x5,.int x6,.int x7,.int x8,.int x9,.int (y1&&&y0),.int x11,.int x12,.int x13,.int x14,.int x15,.int x16,.int x17],q.1.toList++[.int (y1&&&y0)],(false,[q.2])) else (f1 (1,0,[.ref 0,.int 2,.int ((XT.ushr x13 13)&&&7)],[],S0)).bind fun q=>f2 (0,438,[.ref 0,.ref 1,.int x2,.int x3,.int x4,.int x5,.int x6,.int x7,.int x8,.int x9,.int (y1&&&y0),.int x11,.int x12,.int x13,.int x14,.int x15,.int x16,.int x17],q.1.toList++[.int (y1&&&y0)],(false,[q.2])):=Ju h rfl<|Je h rfl [.ref 0,.ref 1,.int x2,.int x3,.int x4,.int x5,.int x6,.int x7,.int x8,.int x9,.int (y1&&&y0),.int x11,.int x12,.int x13,.int x14,.int x15,.int x16,.int x17]<|Jb h rfl rfl<|Jc h rfl k_2<|Jp h rfl (Jb h rfl rfl<|Jd h rfl rfl<|Jc h rfl k_1<|Jb h rfl rfl<|Jq h 0 rfl rfl rfl) (Jb h rfl rfl<|Jd h rfl rfl<|Jc h rfl k_2<|Jb h rfl rfl<|Jc h rfl k_13<|JR h rfl<|Jc h rfl k_7<|Ju h rfl<|Jq h 0 rfl rfl rfl)
theorem e2_0_417{f1 f2 xs}(h:Fy xs f1 f2)(x2 x3 x4 x5 x6 x7 x8 x9 x10 x11 x12 x13 x14 x15 x16 x17 y0 y1:Int32)(S0):f2 (0,417,[.ref 0,.ref 1,.int x2,.int x3,.int x4,.int x5,.int x6,.int x7,.int x8,.int x9,.int x10,.int x11,.int x12,.int x13,.int x14,.int x15,.int x16,.int x17],[.int y0,.int y1],(false,[S0]))=(f1 (1,0,[.ref 0,.int 4,.int 0],[],S0)).bind fun q=>f2 (0,449,[.ref 0,.ref 1,.int x2,.int x3,.int x4,.int x5,.int x6,.int x7,.int x8,.int x9,.int (y1&&&y0),.int x11,.int x12,.int x13,.int x14,.int x15,.int x16,.int x17],q.1.toList++[.int (y1&&&y0)],(false,[q.2])):=Ju h rfl<|Je h rfl [.ref 0,.ref 1,.int x2,.int x3,.int x4,.int x5,.int x6,.int x7,.int x8,.int x9,.int (y1&&&y0),.int x11,.int x12,.int x13,.int x14,.int x15,.int x16,.int x17]<|Jh h rfl<|Jb h rfl rfl<|Jd h rfl rfl<|Jc h rfl k_4<|Jc h rfl k_0<|Jq h 0 rfl rfl rfl
theorem e2_0_438{f1 f2 xs}(h:Fy xs f1 f2)(x2 x3 x4 x5 x6 x7 x8 x9 x10 x11 x12 x13 x14 x15 x16 x17 y0 y1:Int32)(S0):f2 (0,438,[.ref 0,.ref 1,.int x2,.int x3,.int x4,.int x5,.int x6,.int x7,.int x8,.int x9,.int x10,.int x11,.int x12,.int x13,.int x14,.int x15,.int x16,.int x17],[.int y0,.int y1],(false,[S0]))=(f1 (1,0,[.ref 0,.int 4,.int 0],[],S0)).bind fun q=>f2 (0,449,[.ref 0,.ref 1,.int x2,.int x3,.int x4,.int x5,.int x6,.int x7,.int x8,.int x9,.int (y1&&&y0),.int x11,.int x12,.int x13,.int x14,.int x15,.int x16,.int x17],q.1.toList++[.int (y1&&&y0)],(false,[q.2])):=Ju h rfl<|Je h rfl [.ref 0,.ref 1,.int x2,.int x3,.int x4,.int x5,.int x6,.int x7,.int x8,.int x9,.int (y1&&&y0),.int x11,.int x12,.int x13,.int x14,.int x15,.int x16,.int x17]<|Jb h rfl rfl<|Jd h rfl rfl<|Jc h rfl k_4<|Jc h rfl k_0<|Jq h 0 rfl rfl rfl
theorem e2_0_449{f1 f2 xs}(h:Fy xs f1 f2)(x2 x3 x4 x5 x6 x7 x8 x9 x10 x11 x12 x13 x14 x15 x16 x17 y0 y1:Int32)(S0):f2 (0,449,[.ref 0,.ref 1,.int x2,.int x3,.int x4,.int x5,.int x6,.int x7,.int x8,.int x9,.int x10,.int x11,.int x12,.int x13,.int x14,.int x15,.int x16,.int x17],[.int y0,.int y1],(false,[S0]))=f2 (0,60,[.ref 0,.ref 1,.int x2,.int x3,.int x4,.int (x5+1),.int x6,.int x7,.int x8,.int x9,.int (y1&&&y0),.int (x11+1)],[],(false,[S0])):=Ju h rfl<|Je h rfl [.ref 0,.ref 1,.int x2,.int x3,.int x4,.int x5,.int x6,.int x7,.int x8,.int x9,.int (y1&&&y0),.int x11,.int x12,.int x13,.int x14,.int x15,.int x16,.int x17]<|Jn h rfl k_1 rfl [.ref 0,.ref 1,.int x2,.int x3,.int x4,.int (x5+1),.int x6,.int x7,.int x8,.int x9,.int (y1&&&y0),.int x11,.int x12,.int x13,.int x14,.int x15,.int x16,.int x17]<|Jr h rfl<|Jn h rfl k_1 rfl [.ref 0,.ref 1,.int x2,.int x3,.int x4,.int (x5+1),.int x6,.int x7,.int x8,.int x9,.int (y1&&&y0),.int (x11+1),.int x12]<|Jh h rfl<|Jr h rfl rfl
theorem e2_0_461{f1 f2 xs}(h:Fy xs f1 f2)(x2 x3 x4 x5 x6 x7 x8 x9 x10 x11:Int32)(S0):f2 (0,461,[.ref 0,.ref 1,.int x2,.int x3,.int x4,.int x5,.int x6,.int x7,.int x8,.int x9,.int x10,.int x11],[],(false,[S0]))=if 0<x4 then (f1 (1,0,[.ref 0,.int 15,.int 0],[],S0)).bind fun q=>f2 (0,475,[.ref 0,.ref 1,.int x2,.int x3,.int x4,.int x5,.int x6,.int x7,.int x8,.int x9,.int x10,.int x11],q.1.toList++[.int x10],(false,[q.2])) else if x10=0 then some (some (.int 0),(false,[S0])) else (f1 (4,0,[.ref 0],[],S0)).bind fun q=>f2 (0,495,[.ref 0,.ref 1,.int x2,.int x3,.int x4,.int x5,.int x6,.int x7,.int x8,.int x9,.int x10,.int x11],q.1.toList++[],(false,[q.2])):=Jb h rfl rfl<|Jac h rfl (Jb h rfl rfl<|Jd h rfl rfl<|Jc h rfl k_15<|Jc h rfl k_0<|Jq h 0 rfl rfl rfl) (Jb h rfl rfl<|Js h rfl (Jc h rfl k_0<|Jl h rfl) (Jd h rfl rfl<|Jq h 0 rfl rfl rfl))
theorem e2_0_475{f1 f2 xs}(h:Fy xs f1 f2)(x2 x3 x4 x5 x6 x7 x8 x9 x10 x11 y0 y1:Int32)(S0):f2 (0,475,[.ref 0,.ref 1,.int x2,.int x3,.int x4,.int x5,.int x6,.int x7,.int x8,.int x9,.int x10,.int x11],[.int y0,.int y1],(false,[S0]))=f2 (0,461,[.ref 0,.ref 1,.int x2,.int x3,.int (x4+(-1)),.int x5,.int x6,.int x7,.int x8,.int x9,.int (y1&&&y0),.int x11],[],(false,[S0])):=Ju h rfl<|Je h rfl [.ref 0,.ref 1,.int x2,.int x3,.int x4,.int x5,.int x6,.int x7,.int x8,.int x9,.int (y1&&&y0),.int x11]<|Jn h rfl k_m1 rfl [.ref 0,.ref 1,.int x2,.int x3,.int (x4+(-1)),.int x5,.int x6,.int x7,.int x8,.int x9,.int (y1&&&y0),.int x11]<|Jh h rfl rfl
theorem e2_0_495{f1 f2 xs}(h:Fy xs f1 f2)(x2 x3 x4 x5 x6 x7 x8 x9 x10 x11 y0:Int32)(S0):f2 (0,495,[.ref 0,.ref 1,.int x2,.int x3,.int x4,.int x5,.int x6,.int x7,.int x8,.int x9,.int x10,.int x11],[.int y0],(false,[S0]))=if y0=1 then (f1 (6,0,[.ref 0],[],S0)).bind fun q=>f2 (0,503,[.ref 0,.ref 1,.int x2,.int x3,.int x4,.int x5,.int x6,.int x7,.int x8,.int x9,.int x10,.int x11],q.1.toList++[],(false,[q.2])) else some (some (.int 0),(false,[S0])):=Jc h rfl k_1<|Jp h rfl (Jd h rfl rfl<|Jq h 0 rfl rfl rfl) (Jc h rfl k_0<|Jl h rfl)
theorem e2_0_503{f1 f2 xs}(h:Fy xs f1 f2)(x2 x3 x4 x5 x6 x7 x8 x9 x10 x11 y0:Int32)(S0):f2 (0,503,[.ref 0,.ref 1,.int x2,.int x3,.int x4,.int x5,.int x6,.int x7,.int x8,.int x9,.int x10,.int x11],[.int y0],(false,[S0]))=if y0=x5 then f2 (0,528,[.ref 0,.ref 1,.int x2,.int x3,.int x4,.int x5,.int x6,.int x7,.int x8,.int x9,.int x10,.long 0,.null,.long 0,.null,.long 0,.null,.long 0,.null,.int 0,.int 0],[],(false,[S0])) else some (some (.int 0),(false,[S0])):=Jb h rfl rfl<|JA h rfl (JT h rfl rfl<|JM h rfl [.ref 0,.ref 1,.int x2,.int x3,.int x4,.int x5,.int x6,.int x7,.int x8,.int x9,.int x10,.long 0,.null]<|JT h rfl rfl<|JM h rfl [.ref 0,.ref 1,.int x2,.int x3,.int x4,.int x5,.int x6,.int x7,.int x8,.int x9,.int x10,.long 0,.null,.long 0,.null]<|JT h rfl rfl<|JM h rfl [.ref 0,.ref 1,.int x2,.int x3,.int x4,.int x5,.int x6,.int x7,.int x8,.int x9,.int x10,.long 0,.null,.long 0,.null,.long 0,.null]<|JT h rfl rfl<|JM h rfl [.ref 0,.ref 1,.int x2,.int x3,.int x4,.int x5,.int x6,.int x7,.int x8,.int x9,.int x10,.long 0,.null,.long 0,.null,.long 0,.null,.long 0,.null]<|Jc h rfl k_0<|Je h rfl [.ref 0,.ref 1,.int x2,.int x3,.int x4,.int x5,.int x6,.int x7,.int x8,.int x9,.int x10,.long 0,.null,.long 0,.null,.long 0,.null,.long 0,.null,.int 0]<|Jc h rfl k_0<|Je h rfl [.ref 0,.ref 1,.int x2,.int x3,.int x4,.int x5,.int x6,.int x7,.int x8,.int x9,.int x10,.long 0,.null,.long 0,.null,.long 0,.null,.long 0,.null,.int 0,.int 0] rfl) (Jc h rfl k_0<|Jl h rfl)
theorem e2_0_528{f1 f2 xs}(h:Fy xs f1 f2)(x2 x3 x4 x5 x6 x7 x8 x9 x10:Int32)(x11 x13 x15 x17:Int64)(x19 x20:Int32)(S0):f2 (0,528,[.ref 0,.ref 1,.int x2,.int x3,.int x4,.int x5,.int x6,.int x7,.int x8,.int x9,.int x10,.long x11,.null,.long x13,.null,.long x15,.null,.long x17,.null,.int x19,.int x20],[],(false,[S0]))=if 100<x20 then some (some (.int 1),(false,[S0])) else f2 (0,538,[.ref 0,.ref 1,.int x2,.int x3,.int x4,.int x5,.int x6,.int x7,.int x8,.int x9,.int x10,.long x11,.null,.long x13,.null,.long x15,.null,.long x17,.null,.int x19,.int x20,.int 0],[],(false,[S0])):=Jb h rfl rfl<|Jc h rfl k_100<|JU h rfl (Jc h rfl k_1<|JC h rfl) (Jc h rfl k_0<|Je h rfl [.ref 0,.ref 1,.int x2,.int x3,.int x4,.int x5,.int x6,.int x7,.int x8,.int x9,.int x10,.long x11,.null,.long x13,.null,.long x15,.null,.long x17,.null,.int x19,.int x20,.int 0] rfl)
theorem e2_0_538{f1 f2 xs}(h:Fy xs f1 f2)(x2 x3 x4 x5 x6 x7 x8 x9 x10:Int32)(x11 x13 x15 x17:Int64)(x19 x20 x21:Int32)(S0):f2 (0,538,[.ref 0,.ref 1,.int x2,.int x3,.int x4,.int x5,.int x6,.int x7,.int x8,.int x9,.int x10,.long x11,.null,.long x13,.null,.long x15,.null,.long x17,.null,.int x19,.int x20,.int x21],[],(false,[S0]))=if x21<8 then (f1 (13,0,[.ref 0,.int x21],[],S0)).bind fun q=>f2 (0,551,[.ref 0,.ref 1,.int x2,.int x3,.int x4,.int x5,.int x6,.int x7,.int x8,.int x9,.int x10,.long x11,.null,.long x13,.null,.long x15,.null,.long x17,.null,.int x19,.int x20,.int x21],q.1.toList++[],(false,[q.2])) else if x20=100 then some (some (.int 1),(false,[S0])) else (f2 (1,0,[.ref 0,.int (x2+x20)],[],(false,[S0]))).bind fun q=>f2 (0,623,[.ref 0,.ref 1,.int x2,.int x3,.int x4,.int x5,.int x6,.int x7,.int x8,.int x9,.int x10,.long x11,.null,.long x13,.null,.long x15,.null,.long x17,.null,.int x19,.int x20,.int x21],q.1.toList++[],q.2):=Jb h rfl rfl<|Jc h rfl k_8<|Jm h rfl (Jd h rfl rfl<|Jb h rfl rfl<|Jq h 0 rfl rfl rfl) (Jb h rfl rfl<|Jc h rfl k_100<|Jp h rfl (Jh h rfl<|Jr h rfl<|Jc h rfl k_1<|JC h rfl) (Jd h rfl rfl<|Jb h rfl rfl<|Jb h rfl rfl<|Jt h rfl<|JE h rfl rfl))
theorem e2_0_551{f1 f2 xs}(h:Fy xs f1 f2)(x2 x3 x4 x5 x6 x7 x8 x9 x10:Int32)(x11 x13 x15 x17:Int64)(x19 x20 x21 y0:Int32)(S0):f2 (0,551,[.ref 0,.ref 1,.int x2,.int x3,.int x4,.int x5,.int x6,.int x7,.int x8,.int x9,.int x10,.long x11,.null,.long x13,.null,.long x15,.null,.long x17,.null,.int x19,.int x20,.int x21],[.int y0],(false,[S0]))=if y0=0 then (f1 (14,0,[.ref 0,.int x21],[],S0)).bind fun q=>f2 (0,594,[.ref 0,.ref 1,.int x2,.int x3,.int x4,.int x5,.int x6,.int x7,.int x8,.int x9,.int x10,.long x11,.null,.long x13,.null,.long x15,.null,.long x17,.null,.int x19,.int x20,.int x21],q.1.toList++[],(false,[q.2])) else if ((x19>>>(x21&&&31))&&&1)=0 then some (some (.int 0),(false,[S0])) else (f1 (14,0,[.ref 0,.int x21],[],S0)).bind fun q=>f2 (0,570,[.ref 0,.ref 1,.int x2,.int x3,.int x4,.int x5,.int x6,.int x7,.int x8,.int x9,.int x10,.long x11,.null,.long x13,.null,.long x15,.null,.long x17,.null,.int x19,.int x20,.int x21],q.1.toList++[],(false,[q.2])):=Jy h rfl (Jd h rfl rfl<|Jb h rfl rfl<|Jq h 0 rfl rfl rfl) (Jb h rfl rfl<|Jb h rfl rfl<|JW h rfl<|Jc h rfl k_1<|Ju h rfl<|Jy h rfl (Jc h rfl k_0<|Jl h rfl) (Jd h rfl rfl<|Jb h rfl rfl<|Jq h 0 rfl rfl rfl))
theorem e2_0_570{f1 f2 xs}(h:Fy xs f1 f2)(x2 x3 x4 x5 x6 x7 x8 x9 x10:Int32)(x11 x13 x15 x17:Int64)(x19 x20 x21 y0:Int32)(S0):f2 (0,570,[.ref 0,.ref 1,.int x2,.int x3,.int x4,.int x5,.int x6,.int x7,.int x8,.int x9,.int x10,.long x11,.null,.long x13,.null,.long x15,.null,.long x17,.null,.int x19,.int x20,.int x21],[.int y0],(false,[S0]))=(f2 (3,0,[.long x11,.null,.long x13,.null,.long x15,.null,.long x17,.null,.int x21],[],(false,[S0]))).bind fun q=>f2 (0,583,[.ref 0,.ref 1,.int x2,.int x3,.int x4,.int x5,.int x6,.int x7,.int x8,.int x9,.int x10,.long x11,.null,.long x13,.null,.long x15,.null,.long x17,.null,.int x19,.int x20,.int x21],q.1.toList++[.int y0],q.2):=JH h rfl rfl<|JH h rfl rfl<|JH h rfl rfl<|JH h rfl rfl<|Jb h rfl rfl<|JE h rfl rfl
theorem e2_0_583{f1 f2 xs}(h:Fy xs f1 f2)(x2 x3 x4 x5 x6 x7 x8 x9 x10:Int32)(x11 x13 x15 x17:Int64)(x19 x20 x21 y0 y1:Int32)(S0):f2 (0,583,[.ref 0,.ref 1,.int x2,.int x3,.int x4,.int x5,.int x6,.int x7,.int x8,.int x9,.int x10,.long x11,.null,.long x13,.null,.long x15,.null,.long x17,.null,.int x19,.int x20,.int x21],[.int y0,.int y1],(false,[S0]))=if y1=y0 then f2 (0,538,[.ref 0,.ref 1,.int x2,.int x3,.int x4,.int x5,.int x6,.int x7,.int x8,.int x9,.int x10,.long x11,.null,.long x13,.null,.long x15,.null,.long x17,.null,.int x19,.int x20,.int (x21+1)],[],(false,[S0])) else some (some (.int 0),(false,[S0])):=JA h rfl (Jn h rfl k_1 rfl [.ref 0,.ref 1,.int x2,.int x3,.int x4,.int x5,.int x6,.int x7,.int x8,.int x9,.int x10,.long x11,.null,.long x13,.null,.long x15,.null,.long x17,.null,.int x19,.int x20,.int (x21+1)]<|Jh h rfl rfl) (Jc h rfl k_0<|Jl h rfl)
theorem e2_0_594{f1 f2 xs}(h:Fy xs f1 f2)(x2 x3 x4 x5 x6 x7 x8 x9 x10:Int32)(x11 x13 x15 x17:Int64)(x19 x20 x21 y0:Int32)(S0):f2 (0,594,[.ref 0,.ref 1,.int x2,.int x3,.int x4,.int x5,.int x6,.int x7,.int x8,.int x9,.int x10,.long x11,.null,.long x13,.null,.long x15,.null,.long x17,.null,.int x19,.int x20,.int x21],[.int y0],(false,[S0]))=if y0=0 then f2 (0,538,[.ref 0,.ref 1,.int x2,.int x3,.int x4,.int x5,.int x6,.int x7,.int x8,.int x9,.int x10,.long x11,.null,.long x13,.null,.long x15,.null,.long x17,.null,.int x19,.int x20,.int (x21+1)],[],(false,[S0])) else some (some (.int 0),(false,[S0])):=Jy h rfl (Jn h rfl k_1 rfl [.ref 0,.ref 1,.int x2,.int x3,.int x4,.int x5,.int x6,.int x7,.int x8,.int x9,.int x10,.long x11,.null,.long x13,.null,.long x15,.null,.long x17,.null,.int x19,.int x20,.int (x21+1)]<|Jh h rfl rfl) (Jc h rfl k_0<|Jl h rfl)
theorem e2_0_623{f1 f2 xs}(h:Fy xs f1 f2)(x2 x3 x4 x5 x6 x7 x8 x9 x10:Int32)(x11 x13 x15 x17:Int64)(x19 x20 x21 y0:Int32)(S0):f2 (0,623,[.ref 0,.ref 1,.int x2,.int x3,.int x4,.int x5,.int x6,.int x7,.int x8,.int x9,.int x10,.long x11,.null,.long x13,.null,.long x15,.null,.long x17,.null,.int x19,.int x20,.int x21],[.int y0],(false,[S0]))=if (y0&&&15)=15 then (f1 (10,0,[.ref 0],[],S0)).bind fun q=>f2 (0,639,[.ref 0,.ref 1,.int x2,.int x3,.int x4,.int x5,.int x6,.int x7,.int x8,.int x9,.int x10,.long x11,.null,.long x13,.null,.long x15,.null,.long x17,.null,.int x19,.int x20,.int (y0&&&15)],q.1.toList++[],(false,[q.2])) else (f1 (11,0,[.ref 0],[],S0)).bind fun q=>f2 (0,654,[.ref 0,.ref 1,.int x2,.int x3,.int x4,.int x5,.int x6,.int x7,.int x8,.int x9,.int x10,.long x11,.null,.long x13,.null,.long x15,.null,.long x17,.null,.int x19,.int x20,.int (y0&&&15)],q.1.toList++[],(false,[q.2])):=Jc h rfl k_15<|Ju h rfl<|Je h rfl [.ref 0,.ref 1,.int x2,.int x3,.int x4,.int x5,.int x6,.int x7,.int x8,.int x9,.int x10,.long x11,.null,.long x13,.null,.long x15,.null,.long x17,.null,.int x19,.int x20,.int (y0&&&15)]<|Jb h rfl rfl<|Jc h rfl k_15<|Jp h rfl (Jd h rfl rfl<|Jq h 0 rfl rfl rfl) (Jd h rfl rfl<|Jq h 0 rfl rfl rfl)
theorem e2_0_639{f1 f2 xs}(h:Fy xs f1 f2)(x2 x3 x4 x5 x6 x7 x8 x9 x10:Int32)(x11 x13 x15 x17:Int64)(x19 x20 x21 y0:Int32)(S0):f2 (0,639,[.ref 0,.ref 1,.int x2,.int x3,.int x4,.int x5,.int x6,.int x7,.int x8,.int x9,.int x10,.long x11,.null,.long x13,.null,.long x15,.null,.long x17,.null,.int x19,.int x20,.int x21],[.int y0],(false,[S0]))=if y0=0 then some (some (.int 0),(false,[S0])) else f2 (0,528,[.ref 0,.ref 1,.int x2,.int x3,.int x4,.int x5,.int x6,.int x7,.int x8,.int x9,.int x10,.long x11,.null,.long x13,.null,.long x15,.null,.long x17,.null,.int 0,.int (x20+1)],[],(false,[S0])):=Js h rfl (Jc h rfl k_0<|Jl h rfl) (Jc h rfl k_0<|Je h rfl [.ref 0,.ref 1,.int x2,.int x3,.int x4,.int x5,.int x6,.int x7,.int x8,.int x9,.int x10,.long x11,.null,.long x13,.null,.long x15,.null,.long x17,.null,.int 0,.int x20,.int x21]<|Jh h rfl<|Jn h rfl k_1 rfl [.ref 0,.ref 1,.int x2,.int x3,.int x4,.int x5,.int x6,.int x7,.int x8,.int x9,.int x10,.long x11,.null,.long x13,.null,.long x15,.null,.long x17,.null,.int 0,.int (x20+1),.int x21]<|Jh h rfl<|Jr h rfl rfl)
theorem e2_0_654{f1 f2 xs}(h:Fy xs f1 f2)(x2 x3 x4 x5 x6 x7 x8 x9 x10:Int32)(x11 x13 x15 x17:Int64)(x19 x20 x21 y0:Int32)(S0):f2 (0,654,[.ref 0,.ref 1,.int x2,.int x3,.int x4,.int x5,.int x6,.int x7,.int x8,.int x9,.int x10,.long x11,.null,.long x13,.null,.long x15,.null,.long x17,.null,.int x19,.int x20,.int x21],[.int y0],(false,[S0]))=if x21=14 then (f1 (9,0,[.ref 0,.int 1],[],S0)).bind fun q=>f2 (0,668,[.ref 0,.ref 1,.int x2,.int x3,.int x4,.int x5,.int x6,.int x7,.int x8,.int x9,.int x10,.long x11,.null,.long x13,.null,.long x15,.null,.long x17,.null,.int x19,.int x20,.int x21,.int y0],q.1.toList++[],(false,[q.2])) else (f1 (8,0,[.ref 0],[],S0)).bind fun q=>f2 (0,676,[.ref 0,.ref 1,.int x2,.int x3,.int x4,.int x5,.int x6,.int x7,.int x8,.int x9,.int x10,.long x11,.null,.long x13,.null,.long x15,.null,.long x17,.null,.int x19,.int x20,.int x21,.int y0],q.1.toList++[],(false,[q.2])):=Je h rfl [.ref 0,.ref 1,.int x2,.int x3,.int x4,.int x5,.int x6,.int x7,.int x8,.int x9,.int x10,.long x11,.null,.long x13,.null,.long x15,.null,.long x17,.null,.int x19,.int x20,.int x21,.int y0]<|Jb h rfl rfl<|Jc h rfl k_14<|Jp h rfl (Jd h rfl rfl<|Jc h rfl k_1<|Jq h 0 rfl rfl rfl) (Jd h rfl rfl<|Jq h 0 rfl rfl rfl)
theorem e2_0_668{f1 f2 xs}(h:Fy xs f1 f2)(x2 x3 x4 x5 x6 x7 x8 x9 x10:Int32)(x11 x13 x15 x17:Int64)(x19 x20 x21 x22 y0:Int32)(S0):f2 (0,668,[.ref 0,.ref 1,.int x2,.int x3,.int x4,.int x5,.int x6,.int x7,.int x8,.int x9,.int x10,.long x11,.null,.long x13,.null,.long x15,.null,.long x17,.null,.int x19,.int x20,.int x21,.int x22],[.int y0],(false,[S0]))=f2 (0,677,[.ref 0,.ref 1,.int x2,.int x3,.int x4,.int x5,.int x6,.int x7,.int x8,.int x9,.int x10,.long x11,.null,.long x13,.null,.long x15,.null,.long x17,.null,.int x19,.int x20,.int x21,.int x22],[],(false,[S0])):=JN h rfl<|Jh h rfl rfl
theorem e2_0_676{f1 f2 xs}(h:Fy xs f1 f2)(x2 x3 x4 x5 x6 x7 x8 x9 x10:Int32)(x11 x13 x15 x17:Int64)(x19 x20 x21 x22 y0:Int32)(S0):f2 (0,676,[.ref 0,.ref 1,.int x2,.int x3,.int x4,.int x5,.int x6,.int x7,.int x8,.int x9,.int x10,.long x11,.null,.long x13,.null,.long x15,.null,.long x17,.null,.int x19,.int x20,.int x21,.int x22],[.int y0],(false,[S0]))=f2 (0,677,[.ref 0,.ref 1,.int x2,.int x3,.int x4,.int x5,.int x6,.int x7,.int x8,.int x9,.int x10,.long x11,.null,.long x13,.null,.long x15,.null,.long x17,.null,.int x19,.int x20,.int x21,.int x22],[],(false,[S0])):=JN h rfl rfl
theorem e2_0_677{f1 f2 xs}(h:Fy xs f1 f2)(x2 x3 x4 x5 x6 x7 x8 x9 x10:Int32)(x11 x13 x15 x17:Int64)(x19 x20 x21 x22:Int32)(S0):f2 (0,677,[.ref 0,.ref 1,.int x2,.int x3,.int x4,.int x5,.int x6,.int x7,.int x8,.int x9,.int x10,.long x11,.null,.long x13,.null,.long x15,.null,.long x17,.null,.int x19,.int x20,.int x21,.int x22],[],(false,[S0]))=if x22<0 then f2 (0,528,[.ref 0,.ref 1,.int x2,.int x3,.int x4,.int x5,.int x6,.int x7,.int x8,.int x9,.int x10,.long x11,.null,.long x13,.null,.long x15,.null,.long x17,.null,.int x19,.int (x20+1)],[],(false,[S0])) else if ((x6>>>(x22&&&31))&&&1)=0 then f2 (0,528,[.ref 0,.ref 1,.int x2,.int x3,.int x4,.int x5,.int x6,.int x7,.int x8,.int x9,.int x10,.long x11,.null,.long x13,.null,.long x15,.null,.long x17,.null,.int x19,.int (x20+1)],[],(false,[S0])) else (f1 (15,0,[.ref 0],[],S0)).bind fun q=>f2 (0,725,[.ref 0,.ref 1,.int x2,.int x3,.int x4,.int x5,.int x6,.int x7,.int x8,.int x9,.int x10,.long x11,.null,.long x13,.null,.long x15,.null,.long x17,.null,.int x19,.int x20,.int x21,.int x22,.int ((((x7>>>(x22&&&31))&&&1)|||(((x8>>>(x22&&&31))&&&1)<<<((1:Int32)&&&31)))|||(((x9>>>(x22&&&31))&&&1)<<<((2:Int32)&&&31)))],q.1.toList++[],(false,[q.2])):=Jb h rfl rfl<|JB h rfl (Jr h rfl<|Jn h rfl k_1 rfl [.ref 0,.ref 1,.int x2,.int x3,.int x4,.int x5,.int x6,.int x7,.int x8,.int x9,.int x10,.long x11,.null,.long x13,.null,.long x15,.null,.long x17,.null,.int x19,.int (x20+1),.int x21]<|Jh h rfl<|Jr h rfl rfl) (Jb h rfl rfl<|Jb h rfl rfl<|JW h rfl<|Jc h rfl k_1<|Ju h rfl<|Jy h rfl (Jr h rfl<|Jn h rfl k_1 rfl [.ref 0,.ref 1,.int x2,.int x3,.int x4,.int x5,.int x6,.int x7,.int x8,.int x9,.int x10,.long x11,.null,.long x13,.null,.long x15,.null,.long x17,.null,.int x19,.int (x20+1),.int x21]<|Jh h rfl<|Jr h rfl rfl) (Jb h rfl rfl<|Jb h rfl rfl<|JW h rfl<|Jc h rfl k_1<|Ju h rfl<|Jb h rfl rfl<|Jb h rfl rfl<|JW h rfl<|Jc h rfl k_1<|Ju h rfl<|Jc h rfl k_1<|JJ h rfl<|JZ h rfl<|Jb h rfl rfl<|Jb h rfl rfl<|JW h rfl<|Jc h rfl k_1<|Ju h rfl<|Jc h rfl k_2<|JJ h rfl<|JZ h rfl<|Je h rfl [.ref 0,.ref 1,.int x2,.int x3,.int x4,.int x5,.int x6,.int x7,.int x8,.int x9,.int x10,.long x11,.null,.long x13,.null,.long x15,.null,.long x17,.null,.int x19,.int x20,.int x21,.int x22,.int ((((x7>>>(x22&&&31))&&&1)|||(((x8>>>(x22&&&31))&&&1)<<<((1:Int32)&&&31)))|||(((x9>>>(x22&&&31))&&&1)<<<((2:Int32)&&&31)))]<|Jd h rfl rfl<|Jq h 0 rfl rfl rfl))
theorem e2_0_725{f1 f2 xs}(h:Fy xs f1 f2)(x2 x3 x4 x5 x6 x7 x8 x9 x10:Int32)(x11 x13 x15 x17:Int64)(x19 x20 x21 x22 x23 y0:Int32)(S0):f2 (0,725,[.ref 0,.ref 1,.int x2,.int x3,.int x4,.int x5,.int x6,.int x7,.int x8,.int x9,.int x10,.long x11,.null,.long x13,.null,.long x15,.null,.long x17,.null,.int x19,.int x20,.int x21,.int x22,.int x23],[.int y0],(false,[S0]))=if y0=x23 then (f1 (16,0,[.ref 0],[],S0)).bind fun q=>f2 (0,736,[.ref 0,.ref 1,.int x2,.int x3,.int x4,.int x5,.int x6,.int x7,.int x8,.int x9,.int x10,.long x11,.null,.long x13,.null,.long x15,.null,.long x17,.null,.int x19,.int x20,.int x21,.int x22,.int x23],q.1.toList++[],(false,[q.2])) else some (some (.int 0),(false,[S0])):=Jb h rfl rfl<|JA h rfl (Jd h rfl rfl<|Jq h 0 rfl rfl rfl) (Jc h rfl k_0<|Jl h rfl)
theorem e2_0_736{f1 f2 xs}(h:Fy xs f1 f2)(x2 x3 x4 x5 x6 x7 x8 x9 x10:Int32)(x11 x13 x15 x17:Int64)(x19 x20 x21 x22 x23 y0:Int32)(S0):f2 (0,736,[.ref 0,.ref 1,.int x2,.int x3,.int x4,.int x5,.int x6,.int x7,.int x8,.int x9,.int x10,.long x11,.null,.long x13,.null,.long x15,.null,.long x17,.null,.int x19,.int x20,.int x21,.int x22,.int x23],[.int y0],(false,[S0]))=if (x23>>>((1:Int32)&&&31))=0 then (f2 (2,0,[.long x11,.null,.int (x23&&&1),.int y0],[],(false,[S0]))).bind fun q=>f2 (0,769,[.ref 0,.ref 1,.int x2,.int x3,.int x4,.int x5,.int x6,.int x7,.int x8,.int x9,.int x10,.long x11,.null,.long x13,.null,.long x15,.null,.long x17,.null,.int (x19|||(1<<<(x23&&&31))),.int x20,.int x21,.int x22,.int x23,.int y0,.int (x23&&&1)],q.1.toList++[],q.2) else if (x23>>>((1:Int32)&&&31))=1 then (f2 (2,0,[.long x13,.null,.int (x23&&&1),.int y0],[],(false,[S0]))).bind fun q=>f2 (0,791,[.ref 0,.ref 1,.int x2,.int x3,.int x4,.int x5,.int x6,.int x7,.int x8,.int x9,.int x10,.long x11,.null,.long x13,.null,.long x15,.null,.long x17,.null,.int (x19|||(1<<<(x23&&&31))),.int x20,.int x21,.int x22,.int x23,.int y0,.int (x23&&&1)],q.1.toList++[],q.2) else if (x23>>>((1:Int32)&&&31))=2 then (f2 (2,0,[.long x15,.null,.int (x23&&&1),.int y0],[],(false,[S0]))).bind fun q=>f2 (0,813,[.ref 0,.ref 1,.int x2,.int x3,.int x4,.int x5,.int x6,.int x7,.int x8,.int x9,.int x10,.long x11,.null,.long x13,.null,.long x15,.null,.long x17,.null,.int (x19|||(1<<<(x23&&&31))),.int x20,.int x21,.int x22,.int x23,.int y0,.int (x23&&&1)],q.1.toList++[],q.2) else (f2 (2,0,[.long x17,.null,.int (x23&&&1),.int y0],[],(false,[S0]))).bind fun q=>f2 (0,827,[.ref 0,.ref 1,.int x2,.int x3,.int x4,.int x5,.int x6,.int x7,.int x8,.int x9,.int x10,.long x11,.null,.long x13,.null,.long x15,.null,.long x17,.null,.int (x19|||(1<<<(x23&&&31))),.int x20,.int x21,.int x22,.int x23,.int y0,.int (x23&&&1)],q.1.toList++[],q.2):=Je h rfl [.ref 0,.ref 1,.int x2,.int x3,.int x4,.int x5,.int x6,.int x7,.int x8,.int x9,.int x10,.long x11,.null,.long x13,.null,.long x15,.null,.long x17,.null,.int x19,.int x20,.int x21,.int x22,.int x23,.int y0]<|Jb h rfl rfl<|Jc h rfl k_1<|Jb h rfl rfl<|JJ h rfl<|JZ h rfl<|Je h rfl [.ref 0,.ref 1,.int x2,.int x3,.int x4,.int x5,.int x6,.int x7,.int x8,.int x9,.int x10,.long x11,.null,.long x13,.null,.long x15,.null,.long x17,.null,.int (x19|||(1<<<(x23&&&31))),.int x20,.int x21,.int x22,.int x23,.int y0]<|Jb h rfl rfl<|Jc h rfl k_1<|Ju h rfl<|Je h rfl [.ref 0,.ref 1,.int x2,.int x3,.int x4,.int x5,.int x6,.int x7,.int x8,.int x9,.int x10,.long x11,.null,.long x13,.null,.long x15,.null,.long x17,.null,.int (x19|||(1<<<(x23&&&31))),.int x20,.int x21,.int x22,.int x23,.int y0,.int (x23&&&1)]<|Jb h rfl rfl<|Jc h rfl k_1<|JW h rfl<|Js h rfl (JH h rfl rfl<|Jb h rfl rfl<|Jb h rfl rfl<|JE h rfl rfl) (Jb h rfl rfl<|Jc h rfl k_1<|JW h rfl<|Jc h rfl k_1<|Jp h rfl (JH h rfl rfl<|Jb h rfl rfl<|Jb h rfl rfl<|JE h rfl rfl) (Jb h rfl rfl<|Jc h rfl k_1<|JW h rfl<|Jc h rfl k_2<|Jp h rfl (JH h rfl rfl<|Jb h rfl rfl<|Jb h rfl rfl<|JE h rfl rfl) (JH h rfl rfl<|Jb h rfl rfl<|Jb h rfl rfl<|JE h rfl rfl)))
theorem e2_0_769{f1 f2 xs}(h:Fy xs f1 f2)(x2 x3 x4 x5 x6 x7 x8 x9 x10:Int32)(x11 x13 x15 x17:Int64)(x19 x20 x21 x22 x23 x24 x25:Int32)(y0:Int64)(S0):f2 (0,769,[.ref 0,.ref 1,.int x2,.int x3,.int x4,.int x5,.int x6,.int x7,.int x8,.int x9,.int x10,.long x11,.null,.long x13,.null,.long x15,.null,.long x17,.null,.int x19,.int x20,.int x21,.int x22,.int x23,.int x24,.int x25],[.long y0],(false,[S0]))=f2 (0,528,[.ref 0,.ref 1,.int x2,.int x3,.int x4,.int x5,.int x6,.int x7,.int x8,.int x9,.int x10,.long y0,.null,.long x13,.null,.long x15,.null,.long x17,.null,.int x19,.int (x20+1)],[],(false,[S0])):=JM h rfl [.ref 0,.ref 1,.int x2,.int x3,.int x4,.int x5,.int x6,.int x7,.int x8,.int x9,.int x10,.long y0,.null,.long x13,.null,.long x15,.null,.long x17,.null,.int x19,.int x20,.int x21,.int x22,.int x23,.int x24,.int x25]<|Jh h rfl<|Jr h rfl<|Jn h rfl k_1 rfl [.ref 0,.ref 1,.int x2,.int x3,.int x4,.int x5,.int x6,.int x7,.int x8,.int x9,.int x10,.long y0,.null,.long x13,.null,.long x15,.null,.long x17,.null,.int x19,.int (x20+1),.int x21]<|Jh h rfl<|Jr h rfl rfl
theorem e2_0_791{f1 f2 xs}(h:Fy xs f1 f2)(x2 x3 x4 x5 x6 x7 x8 x9 x10:Int32)(x11 x13 x15 x17:Int64)(x19 x20 x21 x22 x23 x24 x25:Int32)(y0:Int64)(S0):f2 (0,791,[.ref 0,.ref 1,.int x2,.int x3,.int x4,.int x5,.int x6,.int x7,.int x8,.int x9,.int x10,.long x11,.null,.long x13,.null,.long x15,.null,.long x17,.null,.int x19,.int x20,.int x21,.int x22,.int x23,.int x24,.int x25],[.long y0],(false,[S0]))=f2 (0,528,[.ref 0,.ref 1,.int x2,.int x3,.int x4,.int x5,.int x6,.int x7,.int x8,.int x9,.int x10,.long x11,.null,.long y0,.null,.long x15,.null,.long x17,.null,.int x19,.int (x20+1)],[],(false,[S0])):=JM h rfl [.ref 0,.ref 1,.int x2,.int x3,.int x4,.int x5,.int x6,.int x7,.int x8,.int x9,.int x10,.long x11,.null,.long y0,.null,.long x15,.null,.long x17,.null,.int x19,.int x20,.int x21,.int x22,.int x23,.int x24,.int x25]<|Jh h rfl<|Jr h rfl<|Jn h rfl k_1 rfl [.ref 0,.ref 1,.int x2,.int x3,.int x4,.int x5,.int x6,.int x7,.int x8,.int x9,.int x10,.long x11,.null,.long y0,.null,.long x15,.null,.long x17,.null,.int x19,.int (x20+1),.int x21]<|Jh h rfl<|Jr h rfl rfl
theorem e2_0_813{f1 f2 xs}(h:Fy xs f1 f2)(x2 x3 x4 x5 x6 x7 x8 x9 x10:Int32)(x11 x13 x15 x17:Int64)(x19 x20 x21 x22 x23 x24 x25:Int32)(y0:Int64)(S0):f2 (0,813,[.ref 0,.ref 1,.int x2,.int x3,.int x4,.int x5,.int x6,.int x7,.int x8,.int x9,.int x10,.long x11,.null,.long x13,.null,.long x15,.null,.long x17,.null,.int x19,.int x20,.int x21,.int x22,.int x23,.int x24,.int x25],[.long y0],(false,[S0]))=f2 (0,528,[.ref 0,.ref 1,.int x2,.int x3,.int x4,.int x5,.int x6,.int x7,.int x8,.int x9,.int x10,.long x11,.null,.long x13,.null,.long y0,.null,.long x17,.null,.int x19,.int (x20+1)],[],(false,[S0])):=JM h rfl [.ref 0,.ref 1,.int x2,.int x3,.int x4,.int x5,.int x6,.int x7,.int x8,.int x9,.int x10,.long x11,.null,.long x13,.null,.long y0,.null,.long x17,.null,.int x19,.int x20,.int x21,.int x22,.int x23,.int x24,.int x25]<|Jh h rfl<|Jr h rfl<|Jn h rfl k_1 rfl [.ref 0,.ref 1,.int x2,.int x3,.int x4,.int x5,.int x6,.int x7,.int x8,.int x9,.int x10,.long x11,.null,.long x13,.null,.long y0,.null,.long x17,.null,.int x19,.int (x20+1),.int x21]<|Jh h rfl<|Jr h rfl rfl
theorem e2_0_827{f1 f2 xs}(h:Fy xs f1 f2)(x2 x3 x4 x5 x6 x7 x8 x9 x10:Int32)(x11 x13 x15 x17:Int64)(x19 x20 x21 x22 x23 x24 x25:Int32)(y0:Int64)(S0):f2 (0,827,[.ref 0,.ref 1,.int x2,.int x3,.int x4,.int x5,.int x6,.int x7,.int x8,.int x9,.int x10,.long x11,.null,.long x13,.null,.long x15,.null,.long x17,.null,.int x19,.int x20,.int x21,.int x22,.int x23,.int x24,.int x25],[.long y0],(false,[S0]))=f2 (0,528,[.ref 0,.ref 1,.int x2,.int x3,.int x4,.int x5,.int x6,.int x7,.int x8,.int x9,.int x10,.long x11,.null,.long x13,.null,.long x15,.null,.long y0,.null,.int x19,.int (x20+1)],[],(false,[S0])):=JM h rfl [.ref 0,.ref 1,.int x2,.int x3,.int x4,.int x5,.int x6,.int x7,.int x8,.int x9,.int x10,.long x11,.null,.long x13,.null,.long x15,.null,.long y0,.null,.int x19,.int x20,.int x21,.int x22,.int x23,.int x24,.int x25]<|Jr h rfl<|Jn h rfl k_1 rfl [.ref 0,.ref 1,.int x2,.int x3,.int x4,.int x5,.int x6,.int x7,.int x8,.int x9,.int x10,.long x11,.null,.long x13,.null,.long x15,.null,.long y0,.null,.int x19,.int (x20+1),.int x21]<|Jh h rfl<|Jr h rfl rfl
theorem e2_1_0{f1 f2 xs}(h:Fy xs f1 f2)(x1:Int32)(ob:List MS):f2 (1,0,[.ref 0,.int x1],[],(false,ob))=if x1<(Int32.ofNat xs.length) then if inb x1 xs.length=true then some (some (.int (xs.getD (x1).toNatClampNeg 0)),(false,ob)) else none else some (some (.int 0),(false,ob)):=Jb h rfl rfl<|Jd h rfl rfl<|J9 h rfl<|Jm h rfl (Jd h rfl rfl<|Jb h rfl rfl<|JS h rfl fun _=>Jh h rfl<|Ji h rfl) (Jc h rfl k_0<|Ji h rfl)
theorem e2_1r_0{f1 f2 xs}(h:Fy xs f1 f2)(x1:Int32)(ob:List MS):f2 (1,0,[.ref 0,.int x1],[],(true,ob))=if x1<(Int32.ofNat xs.length) then if inb x1 xs.length=true then some (some (.int (xs.getD (x1).toNatClampNeg 0)),(true,ob)) else none else some (some (.int 0),(true,ob)):=Jb h rfl rfl<|Jd h rfl rfl<|J9 h rfl<|Jm h rfl (Jd h rfl rfl<|Jb h rfl rfl<|JS h rfl fun _=>Jh h rfl<|Ji h rfl) (Jc h rfl k_0<|Ji h rfl)
theorem e2_2_0{f1 f2 xs}(h:Fy xs f1 f2)(x0:Int64)(x2 x3:Int32)(ob:List MS):f2 (2,0,[.long x0,.null,.int x2,.int x3],[],(false,ob))=if x2=0 then some (some (.long ((x0&&&(-4294967296))|||((x3).toInt64&&&4294967295))),(false,ob)) else some (some (.long ((x0&&&4294967295)|||((x3).toInt64<<<((32:Int32).toInt64&&&63)))),(false,ob)):=Jb h rfl rfl<|Js h rfl (JH h rfl rfl<|J5 h rfl kl_m4294967296<|J7 h rfl<|Jb h rfl rfl<|JV h rfl<|J5 h rfl kl_4294967295<|J7 h rfl<|Jah h rfl<|Jav h rfl) (JH h rfl rfl<|J5 h rfl kl_4294967295<|J7 h rfl<|Jb h rfl rfl<|JV h rfl<|Jc h rfl k_32<|Jaj h rfl<|Jah h rfl<|Jav h rfl)
theorem e2_3_0{f1 f2 xs}(h:Fy xs f1 f2)(x0 x2 x4 x6:Int64)(x8:Int32)(ob:List MS):f2 (3,0,[.long x0,.null,.long x2,.null,.long x4,.null,.long x6,.null,.int x8],[],(false,ob))=if x8<2 then (f2 (4,0,[.long x0,.null,.int (x8&&&1)],[],(false,ob))).bind fun q=>f2 (3,45,[.long x0,.null,.long x2,.null,.long x4,.null,.long x6,.null,.int x8,.long x0,.null],q.1.toList++[],q.2) else if x8<4 then (f2 (4,0,[.long x2,.null,.int (x8&&&1)],[],(false,ob))).bind fun q=>f2 (3,45,[.long x0,.null,.long x2,.null,.long x4,.null,.long x6,.null,.int x8,.long x2,.null],q.1.toList++[],q.2) else if x8<6 then (f2 (4,0,[.long x4,.null,.int (x8&&&1)],[],(false,ob))).bind fun q=>f2 (3,45,[.long x0,.null,.long x2,.null,.long x4,.null,.long x6,.null,.int x8,.long x4,.null],q.1.toList++[],q.2) else (f2 (4,0,[.long x6,.null,.int (x8&&&1)],[],(false,ob))).bind fun q=>f2 (3,45,[.long x0,.null,.long x2,.null,.long x4,.null,.long x6,.null,.int x8,.long x6,.null],q.1.toList++[],q.2):=Jb h rfl rfl<|Jc h rfl k_2<|Jm h rfl (JH h rfl rfl<|Jh h rfl<|JM h rfl [.long x0,.null,.long x2,.null,.long x4,.null,.long x6,.null,.int x8,.long x0,.null]<|JH h rfl rfl<|Jb h rfl rfl<|Jc h rfl k_1<|Ju h rfl<|JE h rfl rfl) (Jb h rfl rfl<|Jc h rfl k_4<|Jm h rfl (JH h rfl rfl<|Jh h rfl<|JM h rfl [.long x0,.null,.long x2,.null,.long x4,.null,.long x6,.null,.int x8,.long x2,.null]<|JH h rfl rfl<|Jb h rfl rfl<|Jc h rfl k_1<|Ju h rfl<|JE h rfl rfl) (Jb h rfl rfl<|Jc h rfl k_6<|Jm h rfl (JH h rfl rfl<|Jh h rfl<|JM h rfl [.long x0,.null,.long x2,.null,.long x4,.null,.long x6,.null,.int x8,.long x4,.null]<|JH h rfl rfl<|Jb h rfl rfl<|Jc h rfl k_1<|Ju h rfl<|JE h rfl rfl) (JH h rfl rfl<|JM h rfl [.long x0,.null,.long x2,.null,.long x4,.null,.long x6,.null,.int x8,.long x6,.null]<|JH h rfl rfl<|Jb h rfl rfl<|Jc h rfl k_1<|Ju h rfl<|JE h rfl rfl)))
theorem e2_3_45{f1 f2 xs}(h:Fy xs f1 f2)(x0 x2 x4 x6:Int64)(x8:Int32)(x9:Int64)(y0:Int32)(ob:List MS):f2 (3,45,[.long x0,.null,.long x2,.null,.long x4,.null,.long x6,.null,.int x8,.long x9,.null],[.int y0],(false,ob))=some (some (.int y0),(false,ob)):=Ji h rfl
theorem e2_4_0{f1 f2 xs}(h:Fy xs f1 f2)(x0:Int64)(x2:Int32)(ob:List MS):f2 (4,0,[.long x0,.null,.int x2],[],(false,ob))=if x2=0 then some (some (.int (x0).toInt32),(false,ob)) else some (some (.int ((XT.ushrL x0 32)).toInt32),(false,ob)):=Jb h rfl rfl<|Js h rfl (JH h rfl rfl<|Jan h rfl<|Jh h rfl<|Ji h rfl) (JH h rfl rfl<|Jc h rfl k_32<|Jak h rfl<|Jan h rfl<|Ji h rfl)
theorem e2_5_0{f1 f2 xs}(h:Fy xs f1 f2)(x0:Int32)(ob:List MS):f2 (5,0,[.int x0],[],(false,ob))=if x0=0 then some (some (.int 5),(false,ob)) else if x0=1 then some (some (.int 6),(false,ob)) else if x0=2 then some (some (.int 7),(false,ob)) else if x0=3 then some (some (.int 8),(false,ob)) else some (some (.int 9),(false,ob)):=Jb h rfl rfl<|Js h rfl (Jc h rfl k_5<|Ji h rfl) (Jb h rfl rfl<|Jc h rfl k_1<|Jp h rfl (Jc h rfl k_6<|Ji h rfl) (Jb h rfl rfl<|Jc h rfl k_2<|Jp h rfl (Jc h rfl k_7<|Ji h rfl) (Jb h rfl rfl<|Jc h rfl k_3<|Jp h rfl (Jc h rfl k_8<|Ji h rfl) (Jc h rfl k_9<|Ji h rfl))))
def own_len(xs:List Int32):Prop:=xs.length≤260
theorem own_toInt_ofNat{a:Nat}(ha:a<2147483648):(Int32.ofNat a).toInt=a:=Int32.toInt_ofNat_of_lt ha
theorem own_lt{a b:Nat}(ha:a<2147483648)(hb:b<2147483648):Int32.ofNat a<Int32.ofNat b↔a<b:=by
 rw[Int32.lt_iff_toInt_lt,own_toInt_ofNat ha,own_toInt_ofNat hb];omega
theorem own_nneg{a:Nat}(ha:a<2147483648):¬Int32.ofNat a<0:=by
 rw[Int32.lt_iff_toInt_lt,own_toInt_ofNat ha]
 have:(0:Int32).toInt=0:=rfl
 omega
theorem own_add1(a:Nat):Int32.ofNat a+1=Int32.ofNat (a+1):=(Int32.ofNat_add a 1).symm
theorem own_nat{a:Nat}(ha:a<2147483648):(Int32.ofNat a).toNatClampNeg=a:=by
 simp only[Int32.toNatClampNeg,own_toInt_ofNat ha];omega
theorem own_inb{a n:Nat}(ha:a<2147483648)(h:a<n):inb (Int32.ofNat a) n=true:=by
 simp only[inb,own_nneg ha,own_nat ha,decide_false,Bool.false_or,Bool.not_eq_true',decide_eq_false_iff_not];omega
theorem own_inb_iff{i:Int32}{n:Nat}:inb i n=true↔0≤i.toInt∧i.toInt<n:=by
 simp only[inb,Bool.not_eq_true',Bool.or_eq_false_iff,decide_eq_false_iff_not,Int32.lt_iff_toInt_lt,Int32.toNatClampNeg]
 have:(0:Int32).toInt=0:=rfl
 omega
theorem own_inb_of{i:Int32}{n:Nat}(h1:¬i<0)(h2:i<Int32.ofNat n)(hn:n<2147483648):inb i n=true:=by
 rw[Int32.lt_iff_toInt_lt] at h1 h2
 rw[own_toInt_ofNat hn] at h2
 have:(0:Int32).toInt=0:=rfl
 exact own_inb_iff.mpr (by omega)
theorem own_up{S:MS}{c i c' i':Nat}{v:Int32}:upd S c i v c' i'=if c'=c∧i'=i then v else S c' i':=rfl
def itN(g:Nat→MS→MS):Nat→MS→MS
 |0,S=>S
 |n+1,S=>g n (itN g n S)
theorem own_for{β:Type}{H:Int32→MS→β}{g:Nat→MS→MS}:∀ {n:Nat},(∀j,j<n→∀S,H (Int32.ofNat j) S=H (Int32.ofNat (j+1)) (g j S))→∀S,H 0 S=H (Int32.ofNat n) (itN g n S)
 |0,_,S=>rfl
 |n+1,h,S=>(own_for (n:=n) (fun j hj=>h j (Nat.lt_succ_of_lt hj)) S).trans (h n (Nat.lt_succ_self n) _)
theorem own_fill(c:Nat)(v:Int32)(n:Nat)(S:MS)(c' i:Nat):itN (fun j S=>upd S c j v) n S c' i=if c'=c∧i<n then v else S c' i:=by
 induction n with
 |zero=>simp[itN]
 |succ n ih=>
  simp only[itN,Jvm.OM.upd,ih]
  by_cases h:c'=c
  ·subst h
   by_cases q:i=n
   ·subst q;simp
   ·simp only[true_and,q,if_false]
    by_cases q':i<n
    ·rw[if_pos q',if_pos (by omega)]
    ·rw[if_neg q',if_neg (by omega)]
  ·simp[h]
theorem own_ne{S:MS}{c i c' i':Nat}{v:Int32}(h:¬(c'=c∧i'=i)):Jvm.OM.upd S c i v c' i'=S c' i':=if_neg h
theorem own_i7(x:Int32):(inb (x&&&7) 8=true)=True:=by
 have h:=and_le (x:=x) (c:=7) (by decide)
 have l3:(7:Int32).toInt=7:=rfl
 exact eq_true (own_inb_iff.mpr (by omega))
theorem own_n7(x:Int32):(x&&&7).toNatClampNeg<8:=by
 have h:=and_le (x:=x) (c:=7) (by decide)
 have l3:(7:Int32).toInt=7:=rfl
 simp only[Int32.toNatClampNeg]
 omega
def own_ari(op x y:Int32):Int32:=if op=5 then x+y else if op=6 then x-y else if op=7 then x*y else if op=8 then if y=0 then 0 else x/y else if op=9 then if y=0 then 0 else x%y else if op=10 then if x<y then 1 else 0 else if op=11 then if x=y then 1 else 0 else 0
def own_ldv(S:MS)(a:Int32):Int32:=if a<0 then 0 else if a<128 then S 23 a.toNatClampNeg else 0
def own_sto(S:MS)(a v:Int32):MS:=if a<0 then S else if a<128 then if a<8 then Jvm.OM.upd (Jvm.OM.upd (Jvm.OM.upd S 23 a.toNatClampNeg v) 0 9 a) 0 10 v else Jvm.OM.upd S 23 a.toNatClampNeg v else S
def own_xi(S:MS)(o a b c:Int32):MS:=
 if o=1 then Jvm.OM.upd S 24 (a&&&7).toNatClampNeg b
 else if o=2 then Jvm.OM.upd S 24 (a&&&7).toNatClampNeg (own_ldv S b)
 else if o=3 then own_sto S a (S 24 (b&&&7).toNatClampNeg)
 else if o=4 then own_sto S a b
 else if o=5 then Jvm.OM.upd S 24 (a&&&7).toNatClampNeg (own_ari c (S 24 (a&&&7).toNatClampNeg) (S 24 (b&&&7).toNatClampNeg))
 else if o=6 then Jvm.OM.upd S 24 (a&&&7).toNatClampNeg (own_ari c (S 24 (a&&&7).toNatClampNeg) b)
 else if o=7 then Jvm.OM.upd S 24 (a&&&7).toNatClampNeg (0-S 24 (a&&&7).toNatClampNeg)
 else S
def own_ex:Nat→Int32→MS→Int32×MS
 |0,_,S=>(-2,S)
 |f+1,p,S=>if p<0 then (-2,S) else if p<S 0 6 then if p<1024 then if S 19 p.toNatClampNeg=8 then (S 21 p.toNatClampNeg,S) else if S 19 p.toNatClampNeg=9 then if S 24 (S 20 p.toNatClampNeg&&&7).toNatClampNeg=0 then (S 22 p.toNatClampNeg,S) else (S 21 p.toNatClampNeg,S) else if S 19 p.toNatClampNeg=10 then if S 20 p.toNatClampNeg=0 then (S 22 p.toNatClampNeg,S) else (S 21 p.toNatClampNeg,S) else own_ex f (p+1) (own_xi S (S 19 p.toNatClampNeg) (S 20 p.toNatClampNeg) (S 21 p.toNatClampNeg) (S 22 p.toNatClampNeg)) else (-2,S) else (-2,S)
def own_es(S:MS)(s:Int32):Int32×MS:=if s<0 then (-2,S) else if s<S 0 4 then if s<32 then own_ex 1024 (S 9 s.toNatClampNeg) S else (-2,S) else (-2,S)
def own_stp(S:MS):MS:=Jvm.OM.upd (Jvm.OM.upd (own_es S (S 0 7)).2 0 7 (own_es S (S 0 7)).1) 0 8 ((own_es S (S 0 7)).2 0 8+1)
def own_rst(S:MS):MS:=fun c i=>if c=23 then if i<128 then 0 else S 23 i else if c=24 then if i<8 then 0 else S 24 i else if c=0 then if i=7 then if 0<S 0 4 then 0 else -2 else if i=8 then 0 else if i=9 then -1 else if i=10 then 0 else S 0 i else S c i
section Ex
variable {f1:FT1}
theorem own_arF(hf1:Fx f1)(S:MS)(o x y:Int32):f1 (68,0,[.ref 0,.int o,.int x,.int y],[],S)=some (some (.int (own_ari o x y)),S):=by
 rw[e1_68_0 hf1]
 unfold own_ari
 by_cases h5:o=5
 ·rw[if_pos h5,if_pos h5]
 rw[if_neg h5,if_neg h5]
 by_cases h6:o=6
 ·rw[if_pos h6,if_pos h6]
 rw[if_neg h6,if_neg h6]
 by_cases h7:o=7
 ·rw[if_pos h7,if_pos h7]
 rw[if_neg h7,if_neg h7]
 by_cases h8:o=8
 ·rw[if_pos h8,if_pos h8]
  by_cases q:y=0
  ·rw[if_pos q,if_pos q]
  ·rw[if_neg q,if_neg q]
   exact e1_68_43 hf1 _ _ _ _ _ q S
 rw[if_neg h8,if_neg h8]
 by_cases h9:o=9
 ·rw[if_pos h9,if_pos h9]
  by_cases q:y=0
  ·rw[if_pos q,if_pos q]
  ·rw[if_neg q,if_neg q]
   exact e1_68_59 hf1 _ _ _ _ _ q S
 rw[if_neg h9,if_neg h9]
 by_cases h10:o=10
 ·rw[if_pos h10,if_pos h10]
  by_cases q:x<y
  ·rw[if_pos q,if_pos q]
  ·rw[if_neg q,if_neg q]
 rw[if_neg h10,if_neg h10]
 by_cases h11:o=11
 ·rw[if_pos h11,if_pos h11]
  by_cases q:x=y
  ·rw[if_pos q,if_pos q]
  ·rw[if_neg q,if_neg q]
 rw[if_neg h11,if_neg h11]
theorem own_ldF(hf1:Fx f1)(S:MS)(a:Int32):f1 (66,0,[.ref 0,.int a],[],S)=some (some (.int (own_ldv S a)),S):=by
 rw[e1_66_0 hf1]
 unfold own_ldv
 by_cases h:a<0
 ·rw[if_pos h,if_pos h]
 ·rw[if_neg h,if_neg h]
  by_cases g:a<128
  ·rw[if_pos g,if_pos g,if_pos (own_inb_of (n:=128) h g (by decide))]
  ·rw[if_neg g,if_neg g]
theorem own_stF(hf1:Fx f1)(S:MS)(a v:Int32):f1 (67,0,[.ref 0,.int a,.int v],[],S)=some (none,own_sto S a v):=by
 rw[e1_67_0 hf1]
 unfold own_sto
 by_cases h:a<0
 ·rw[if_pos h,if_pos h]
 ·rw[if_neg h,if_neg h]
  by_cases g:a<128
  ·rw[if_pos g,if_pos g,if_pos (own_inb_of (n:=128) h g (by decide))]
   by_cases k:a<8
   ·rw[if_pos k,if_pos k]
   ·rw[if_neg k,if_neg k]
  ·rw[if_neg g,if_neg g]
theorem own_xiF(hf1:Fx f1)(S:MS){p:Int32}(h0:¬p<0)(h1:p<1024):f1 (65,0,[.ref 0,.int p],[],S)=some (none,own_xi S (S 19 p.toNatClampNeg) (S 20 p.toNatClampNeg) (S 21 p.toNatClampNeg) (S 22 p.toNatClampNeg)):=by
 rw[e1_65_0 hf1,if_pos (own_inb_of (n:=1024) h0 h1 (by decide)),own_ldF hf1,own_stF hf1,own_stF hf1,own_arF hf1,own_arF hf1];simp only[Option.bind_some,Option.toList_some,Option.toList_none,List.cons_append,List.nil_append,List.append_nil]
 simp only[own_i7,if_true,e1_65_68 hf1,e1_65_92 hf1,e1_65_107 hf1,e1_65_156 hf1,e1_65_195 hf1]
 generalize S 19 p.toNatClampNeg=o
 unfold own_xi
 by_cases h1:o=1
 ·rw[if_pos h1,if_pos h1]
 rw[if_neg h1,if_neg h1]
 by_cases h2:o=2
 ·rw[if_pos h2,if_pos h2]
 rw[if_neg h2,if_neg h2]
 by_cases h3:o=3
 ·rw[if_pos h3,if_pos h3]
 rw[if_neg h3,if_neg h3]
 by_cases h4:o=4
 ·rw[if_pos h4,if_pos h4]
 rw[if_neg h4,if_neg h4]
 by_cases h5:o=5
 ·rw[if_pos h5,if_pos h5]
 rw[if_neg h5,if_neg h5]
 by_cases h6:o=6
 ·rw[if_pos h6,if_pos h6]
 rw[if_neg h6,if_neg h6]
 by_cases h7:o=7
 ·rw[if_pos h7,if_pos h7]
 rw[if_neg h7,if_neg h7]
theorem own_exF(hf1:Fx f1)(x1:Int32):∀(f g:Nat),g+f=1024→∀(p:Int32) (S:MS),f1 (64,30,[.ref 0,.int x1,.int p,.int (Int32.ofNat g)],[],S)=some (some (.int (own_ex f p S).1),(own_ex f p S).2)
 |0,g,h,p,S=>by
  have:g=1024:=by omega
  subst this
  rw[e1_64_30 hf1,if_neg (by decide)]
  rfl
 |f+1,g,h,p,S=>by
  rw[e1_64_30 hf1,if_pos (show Int32.ofNat g<1024 from (own_lt (a:=g) (b:=1024) (by omega) (by decide)).mpr (by omega)),own_ex]
  by_cases h0:p<0
  ·rw[if_pos h0,if_pos h0]
  rw[if_neg h0,if_neg h0]
  by_cases h1:p<S 0 6
  ·rw[if_pos h1,if_pos h1]
   by_cases h2:p<1024
   ·rw[if_pos h2,if_pos h2,if_pos (own_inb_of (n:=1024) h0 h2 (by decide)),own_xiF hf1 S h0 h2];simp only[Option.bind_some,Option.toList_some,Option.toList_none,List.cons_append,List.nil_append,List.append_nil]
    simp only[own_i7,if_true]
    rw[e1_64_154 hf1,own_add1,own_exF hf1 x1 f (g+1) (by omega)]
    by_cases h8:S 19 p.toNatClampNeg=8
    ·rw[if_pos h8,if_pos h8]
    rw[if_neg h8,if_neg h8]
    by_cases h9:S 19 p.toNatClampNeg=9
    ·rw[if_pos h9,if_pos h9]
     by_cases q:S 24 (S 20 p.toNatClampNeg&&&7).toNatClampNeg=0
     ·rw[if_pos q,if_pos q]
     ·rw[if_neg q,if_neg q]
    rw[if_neg h9,if_neg h9]
    by_cases h10:S 19 p.toNatClampNeg=10
    ·rw[if_pos h10,if_pos h10]
     by_cases q:S 20 p.toNatClampNeg=0
     ·rw[if_pos q,if_pos q]
     ·rw[if_neg q,if_neg q]
    rw[if_neg h10,if_neg h10]
   ·rw[if_neg h2,if_neg h2]
  ·rw[if_neg h1,if_neg h1]
theorem own_soF(hf1:Fx f1)(S:MS):f1 (63,0,[.ref 0],[],S)=some (none,own_stp S):=by
 have es:f1 (64,0,[.ref 0,.int (S 0 7)],[],S)=some (some (.int (own_es S (S 0 7)).1),(own_es S (S 0 7)).2):=by
  rw[e1_64_0 hf1]
  unfold own_es
  by_cases h0:S 0 7<0
  ·rw[if_pos h0,if_pos h0]
  rw[if_neg h0,if_neg h0]
  by_cases h1:S 0 7<S 0 4
  ·rw[if_pos h1,if_pos h1]
   by_cases h2:S 0 7<32
   ·rw[if_pos h2,if_pos h2,if_pos (own_inb_of (n:=32) h0 h2 (by decide))]
    exact own_exF hf1 _ 1024 0 rfl _ S
   ·rw[if_neg h2,if_neg h2]
  ·rw[if_neg h1,if_neg h1]
 rw[e1_63_0 hf1,es];simp only[Option.bind_some,Option.toList_some,Option.toList_none,List.cons_append,List.nil_append,List.append_nil]
 rw[e1_63_8 hf1]
 rfl
theorem own_rsF(hf1:Fx f1)(S:MS):f1 (19,0,[.ref 0],[],S)=some (none,own_rst S):=by
 rw[e1_19_0 hf1]
 refine (own_for (H:=fun x T=>f1 (19,2,[.ref 0,.int x],[],T)) (g:=fun j T=>Jvm.OM.upd T 23 j 0) (n:=128) (fun j hj T=>?_) S).trans ?_
 ·show f1 (19,2,[.ref 0,.int (Int32.ofNat j)],[],T)=_
  rw[e1_19_2 hf1,if_pos (show Int32.ofNat j<128 from (own_lt (a:=j) (b:=128) (by omega) (by decide)).mpr hj),if_pos (own_inb (by omega) hj),own_add1,own_nat (by omega)]
 show f1 (19,2,[.ref 0,.int (Int32.ofNat 128)],[],_)=_
 rw[e1_19_2 hf1,if_neg (by decide)]
 refine (own_for (H:=fun x T=>f1 (19,24,[.ref 0,.int x],[],T)) (g:=fun j T=>Jvm.OM.upd T 24 j 0) (n:=8) (fun j hj T=>?_) _).trans ?_
 ·show f1 (19,24,[.ref 0,.int (Int32.ofNat j)],[],T)=_
  rw[e1_19_24 hf1,if_pos (show Int32.ofNat j<8 from (own_lt (a:=j) (b:=8) (by omega) (by decide)).mpr hj),if_pos (own_inb (by omega) hj),own_add1,own_nat (by omega)]
 show f1 (19,24,[.ref 0,.int (Int32.ofNat 8)],[],_)=_
 rw[e1_19_24 hf1,if_neg (by decide)]
 have k:∀c i,itN (fun j T=>Jvm.OM.upd T 24 j 0) 8 (itN (fun j T=>Jvm.OM.upd T 23 j 0) 128 S) c i=if c=24∧i<8 then 0 else if c=23∧i<128 then 0 else S c i:=fun c i=>by rw[own_fill,own_fill]
 generalize itN (fun j T=>Jvm.OM.upd T 24 j 0) 8 (itN (fun j T=>Jvm.OM.upd T 23 j 0) 128 S)=U at k
 have u4:U 0 4=S 0 4:=by rw[k];rfl
 have fin:∀v:Int32,v=(if 0<S 0 4 then 0 else -2)→Jvm.OM.upd (Jvm.OM.upd (Jvm.OM.upd (Jvm.OM.upd U 0 8 0) 0 9 (-1)) 0 10 0) 0 7 v=own_rst S:=fun v hv=>by
  funext c i
  simp only[own_up,k]
  unfold own_rst
  by_cases c23:c=23
  ·subst c23
   simp
  by_cases c24:c=24
  ·subst c24
   simp
  by_cases c0:c=0
  ·subst c0
   by_cases i7:i=7
   ·simp[i7,hv]
   by_cases i10:i=10
   ·simp[i10]
   by_cases i9:i=9
   ·simp[i9]
   by_cases i8:i=8
   ·simp[i8]
   simp[i7,i8,i9,i10]
  ·simp[c0,c23,c24]
 rw[u4]
 by_cases q:0<S 0 4
 ·rw[if_pos q,fin 0 (by rw[if_pos q])]
 ·rw[if_neg q,fin (-2) (by rw[if_neg q])]
end Ex
def own_Fs(S S':MS):Prop:=(∀i,i<7∨10<i→S' 0 i=S 0 i)∧(∀c,c≠0→c≠23→c≠24→∀i,S' c i=S c i)∧(∀i,128≤i→S' 23 i=S 23 i)∧∀i,8≤i→S' 24 i=S 24 i
theorem own_Fsr(S:MS):own_Fs S S:=⟨fun _ _=>rfl,fun _ _ _ _ _=>rfl,fun _ _=>rfl,fun _ _=>rfl⟩
theorem own_Fst{S S' S'':MS}(h:own_Fs S S')(h':own_Fs S' S''):own_Fs S S'':=⟨fun i hi=>(h'.1 i hi).trans (h.1 i hi),fun c a b d i=>(h'.2.1 c a b d i).trans (h.2.1 c a b d i),fun i hi=>(h'.2.2.1 i hi).trans (h.2.2.1 i hi),fun i hi=>(h'.2.2.2 i hi).trans (h.2.2.2 i hi)⟩
theorem own_Fsu{S T:MS}(h:own_Fs S T){c i:Nat}{v:Int32}(hc:(c=0∧7≤i∧i≤10)∨(c=23∧i<128)∨(c=24∧i<8)):own_Fs S (Jvm.OM.upd T c i v):=by
 refine own_Fst h ⟨fun j hj=>own_ne ?_,fun c' a b d j=>own_ne ?_,fun j hj=>own_ne ?_,fun j hj=>own_ne ?_⟩
 ·omega
 ·omega
 ·omega
 ·omega
theorem own_Fsst(S:MS)(a v:Int32):own_Fs S (own_sto S a v):=by
 unfold own_sto
 by_cases h:a<0
 ·rw[if_pos h];exact own_Fsr S
 ·rw[if_neg h]
  by_cases g:a<128
  ·have n:a.toNatClampNeg<128:=by
    have:=own_inb_iff.mp (own_inb_of (n:=128) h g (by decide))
    simp only[Int32.toNatClampNeg]
    omega
   rw[if_pos g]
   by_cases k:a<8
   ·rw[if_pos k];exact own_Fsu (own_Fsu (own_Fsu (own_Fsr S) (by omega)) (by omega)) (by omega)
   ·rw[if_neg k];exact own_Fsu (own_Fsr S) (by omega)
  ·rw[if_neg g];exact own_Fsr S
theorem own_Fsx(S:MS)(o a b c:Int32):own_Fs S (own_xi S o a b c):=by
 have n:=own_n7 a
 unfold own_xi
 split
 ·exact own_Fsu (own_Fsr S) (by omega)
 split
 ·exact own_Fsu (own_Fsr S) (by omega)
 split
 ·exact own_Fsst ..
 split
 ·exact own_Fsst ..
 split
 ·exact own_Fsu (own_Fsr S) (by omega)
 split
 ·exact own_Fsu (own_Fsr S) (by omega)
 split
 ·exact own_Fsu (own_Fsr S) (by omega)
 ·exact own_Fsr S
theorem own_Fse:∀(f:Nat) (p:Int32) (S:MS),own_Fs S (own_ex f p S).2
 |0,p,S=>own_Fsr S
 |f+1,p,S=>by
  rw[own_ex]
  split
  ·exact own_Fsr S
  split
  ·split
   ·split
    ·exact own_Fsr S
    split
    ·split
     ·exact own_Fsr S
     ·exact own_Fsr S
    split
    ·split
     ·exact own_Fsr S
     ·exact own_Fsr S
    ·exact own_Fst (own_Fsx ..) (own_Fse f _ _)
   ·exact own_Fsr S
  ·exact own_Fsr S
theorem own_Fsp(S:MS):own_Fs S (own_stp S):=by
 have:own_Fs S (own_es S (S 0 7)).2:=by
  unfold own_es
  split
  ·exact own_Fsr S
  split
  ·split
   ·exact own_Fse ..
   ·exact own_Fsr S
  ·exact own_Fsr S
 exact own_Fsu (own_Fsu this (by omega)) (by omega)
theorem own_Fsrs(S:MS):own_Fs S (own_rst S):=by
 refine⟨fun i hi=>?_,fun c a b d i=>?_,fun i hi=>?_,fun i hi=>?_⟩
 ·unfold own_rst
  rw[if_neg (by decide),if_neg (by decide),if_pos rfl,if_neg (by omega),if_neg (by omega),if_neg (by omega),if_neg (by omega)]
 ·unfold own_rst
  rw[if_neg b,if_neg d,if_neg a]
 ·unfold own_rst
  rw[if_pos rfl,if_neg (by omega)]
 ·unfold own_rst
  rw[if_neg (by decide),if_pos rfl,if_neg (by omega)]
def own_Cd(L:Nat)(S S':MS):Prop:=(∀i,i≠6→S' 0 i=S 0 i)∧(∀c,c≠0→(c<19∨22<c)→∀i,S' c i=S c i)∧∀c,19≤c→c≤22→∀i,i<L→S' c i=S c i
def own_Ex(S S':MS):Prop:=(∀i,i≠11→i≠14→i≠15→i≠16→S' 0 i=S 0 i)∧∀c,c≠0→c<27→∀i,S' c i=S c i
theorem own_Exr(S:MS):own_Ex S S:=⟨fun _ _ _ _ _=>rfl,fun _ _ _ _=>rfl⟩
theorem own_Ext{S S' S'':MS}(h:own_Ex S S')(h':own_Ex S' S''):own_Ex S S'':=⟨fun i a b c d=>(h'.1 i a b c d).trans (h.1 i a b c d),fun c a b i=>(h'.2 c a b i).trans (h.2 c a b i)⟩
theorem own_Exu{S T:MS}(h:own_Ex S T){c i:Nat}{v:Int32}(hc:(c=0∧(i=11∨i=14∨i=15∨i=16))∨27≤c):own_Ex S (Jvm.OM.upd T c i v):=own_Ext h ⟨fun j a b c d=>own_ne (by omega),fun c' a b j=>own_ne (by omega)⟩
def own_Q(S:MS)(ps et ot:Int32):Prop:=S 0 11=ps∧S 0 14=et∧S 0 15=ot∧S 0 16=0∧S 29 0 = -1
def own_op(op:Int32):Prop:=op=5∨op=6∨op=7∨op=8∨op=9∨op=10∨op=11
def own_AB(m L:Nat)(S S':MS):Prop:=(∀i,i≠6→i≠14→S' 0 i=S 0 i)∧(∀c,c≠0→(c<19∨(22<c∧c<27)∨29<c)→∀i,S' c i=S c i)∧(∀c,19≤c→c≤22→∀i,i<L→S' c i=S c i)∧S' 0 14=1∧((m=0∧S' 0 6=Int32.ofNat L∧S' 27 0=1∧S' 28 0=0)∨(m=1∧S' 0 6=Int32.ofNat L∧S' 27 0=2∧S' 29 0 = -1)∨(m=2∧S' 0 6=Int32.ofNat (L+2)∧S' 27 0=3∧S' 28 0=0∧S' 19 L=2∧S' 20 L=0∧S' 19 (L+1)=6∧S' 20 (L+1)=0))
section P8
variable {f1:FT1}
theorem own_emE(hf1:Fx f1){S:MS}{L:Nat}(hL:L<1024)(h6:S 0 6=Int32.ofNat L)(a b c d:Int32):∃S',f1 (52,0,[.ref 0,.int a,.int b,.int c,.int d],[],S)=some (some (.int (Int32.ofNat L)),S')∧own_Cd L S S'∧S' 0 6=Int32.ofNat (L+1)∧S' 19 L=a∧S' 20 L=b∧S' 21 L=c:=by
 rw[e1_52_0 hf1,h6,if_neg (own_nneg (by omega)),if_pos (show Int32.ofNat L<1024 from (own_lt (a:=L) (b:=1024) (by omega) (by decide)).mpr hL),if_pos (own_inb (by omega) hL),own_add1,own_nat (by omega)]
 refine⟨_,rfl,⟨fun i hi=>?_,fun c h0 hc i=>?_,fun c h0 h1 i hi=>?_⟩,rfl,?_,?_,?_⟩
 ·rw[own_ne (by omega),own_ne (by omega),own_ne (by omega),own_ne (by omega),own_ne (by omega)]
 ·rw[own_ne (by omega),own_ne (by omega),own_ne (by omega),own_ne (by omega),own_ne (by omega)]
 ·rw[own_ne (by omega),own_ne (by omega),own_ne (by omega),own_ne (by omega),own_ne (by omega)]
 ·rw[own_ne (by omega),own_ne (by omega),own_ne (by omega),own_ne (by omega),own_up,if_pos ⟨rfl,rfl⟩]
 ·rw[own_ne (by omega),own_ne (by omega),own_ne (by omega),own_up,if_pos ⟨rfl,rfl⟩]
 ·rw[own_ne (by omega),own_ne (by omega),own_up,if_pos ⟨rfl,rfl⟩]
theorem own_prF(hf1:Fx f1)(S:MS){op:Int32}(h:own_op op):∃v,f1 (35,0,[.ref 0,.int op],[],S)=some (some (.int v),S)∧¬v<0:=by
 rw[e1_35_0 hf1]
 rcases h with rfl | rfl | rfl | rfl | rfl | rfl | rfl
 ·exact⟨2,by rw[if_neg (by decide),if_neg (by decide),if_pos rfl],by decide⟩
 ·exact⟨2,by rw[if_neg (by decide),if_neg (by decide),if_neg (by decide),if_pos rfl],by decide⟩
 ·exact⟨3,by rw[if_neg (by decide),if_neg (by decide),if_neg (by decide),if_neg (by decide),if_pos rfl],by decide⟩
 ·exact⟨3,by rw[if_neg (by decide),if_neg (by decide),if_neg (by decide),if_neg (by decide),if_neg (by decide),if_pos rfl],by decide⟩
 ·exact⟨3,by rw[if_neg (by decide),if_neg (by decide),if_neg (by decide),if_neg (by decide),if_neg (by decide),if_neg (by decide),if_pos rfl],by decide⟩
 ·exact⟨1,by rw[if_pos rfl],by decide⟩
 ·exact⟨1,by rw[if_neg (by decide),if_pos rfl],by decide⟩
theorem own_rw0(hf1:Fx f1){S:MS}(h15:S 0 15=0)(p:Int32){x:Int32}(hx:x<96):f1 (37,2,[.ref 0,.int p,.int x],[],S)=some (none,S):=by
 rw[e1_37_2 hf1,if_pos hx,if_neg (by rw[h15];decide)]
theorem own_riF(hf1:Fx f1)(S:MS){op:Int32}(h:own_op op)(k:Int32):∃v,f1 (43,0,[.ref 0,.int op,.int k],[],S)=some (some (.int v),S)∧(v=0∨v=1∨v=2):=by
 have t54:∃v,f1 (43,54,[.ref 0,.int op,.int k],[],S)=some (some (.int v),S)∧(v=0∨v=1∨v=2):=by
  rw[e1_43_54 hf1]
  by_cases a:op=9
  ·rw[if_pos a]
   by_cases b:k=0
   ·rw[if_pos b];exact⟨_,rfl,Or.inr (Or.inr rfl)⟩
   rw[if_neg b]
   by_cases c:k=1
   ·rw[if_pos c];exact⟨_,rfl,Or.inr (Or.inr rfl)⟩
   rw[if_neg c]
   by_cases d:k = -1
   ·rw[if_pos d];exact⟨_,rfl,Or.inr (Or.inr rfl)⟩
   rw[if_neg d];exact⟨_,rfl,Or.inl rfl⟩
  ·rw[if_neg a];exact⟨_,rfl,Or.inl rfl⟩
 have t48:∃v,f1 (43,48,[.ref 0,.int op,.int k],[],S)=some (some (.int v),S)∧(v=0∨v=1∨v=2):=by
  rw[e1_43_48 hf1]
  by_cases b:k=0
  ·rw[if_pos b];exact⟨_,rfl,Or.inr (Or.inr rfl)⟩
  ·rw[if_neg b];exact t54
 have t36:∃v,f1 (43,36,[.ref 0,.int op,.int k],[],S)=some (some (.int v),S)∧(v=0∨v=1∨v=2):=by
  rw[e1_43_36 hf1]
  by_cases a:op=7
  ·rw[if_pos a];exact t48
  rw[if_neg a]
  by_cases b:op=8
  ·rw[if_pos b];exact t48
  ·rw[if_neg b];exact t54
 have t29:∃v,f1 (43,29,[.ref 0,.int op,.int k],[],S)=some (some (.int v),S)∧(v=0∨v=1∨v=2):=by
  rw[e1_43_29 hf1]
  by_cases b:k=1
  ·rw[if_pos b];exact⟨_,rfl,Or.inr (Or.inl rfl)⟩
  ·rw[if_neg b];exact t36
 have t17:∃v,f1 (43,17,[.ref 0,.int op,.int k],[],S)=some (some (.int v),S)∧(v=0∨v=1∨v=2):=by
  rw[e1_43_17 hf1]
  by_cases a:op=7
  ·rw[if_pos a];exact t29
  rw[if_neg a]
  by_cases b:op=8
  ·rw[if_pos b];exact t29
  ·rw[if_neg b];exact t36
 have t11:∃v,f1 (43,11,[.ref 0,.int op,.int k],[],S)=some (some (.int v),S)∧(v=0∨v=1∨v=2):=by
  rw[e1_43_11 hf1]
  by_cases b:k=0
  ·rw[if_pos b];exact⟨_,rfl,Or.inr (Or.inl rfl)⟩
  ·rw[if_neg b];exact t17
 rw[e1_43_0 hf1]
 by_cases a:op=5
 ·rw[if_pos a];exact t11
 rw[if_neg a]
 by_cases b:op=6
 ·rw[if_pos b];exact t11
 ·rw[if_neg b];exact t17
theorem own_maE(hf1:Fx f1){S:MS}(h0:0<S 0 0)(k0:S 27 0=2)(r0:S 29 0 = -1){L:Nat}(hL:L<1000)(h6:S 0 6=Int32.ofNat L)(x:Int32):∃S',f1 (48,0,[.ref 0,.int 0,.int x],[],S)=some (some (.int 0),S')∧(∀i,i≠6→S' 0 i=S 0 i)∧(∀c,c≠0→(c<19∨(22<c∧c<27)∨29<c)→∀i,S' c i=S c i)∧(∀c,19≤c→c≤22→∀i,i<L→S' c i=S c i)∧S' 0 6=Int32.ofNat (L+1)∧S' 19 L=2∧S' 20 L=0∧S' 27 0=3∧S' 28 0=0∧(∀i,i≠0→S' 27 i=S 27 i)∧(∀i,i≠0→S' 28 i=S 28 i):=by
 have al:f1 (49,0,[.ref 0,.int 0,.int x],[],S)=some (some (.int 0),S):=by
  rw[e1_49_0 hf1,e1_49_2 hf1,if_pos h0,if_pos (by decide),if_pos (by decide)]
  exact if_pos (show S 29 0<0 by rw[r0];decide)
 obtain⟨S1,e1,C,c6,c19,c20,c21⟩:=own_emE hf1 (L:=L) (by omega) h6 2 0 (S 28 0) 0
 rw[e1_48_0 hf1,if_neg (by decide),if_pos (by decide),if_pos (by decide),if_neg (show ¬S 27 (0:Int32).toNatClampNeg=3 from by rw[show (0:Int32).toNatClampNeg=0 from rfl,k0];decide),al];simp only[Option.bind_some,Option.toList_some,Option.toList_none,List.cons_append,List.nil_append,List.append_nil]
 rw[e1_48_40 hf1,if_neg (show ¬S 27 (0:Int32).toNatClampNeg=1 from by rw[show (0:Int32).toNatClampNeg=0 from rfl,k0];decide),if_pos (by decide)]
 rw[show f1 (52,0,[.ref 0,.int 2,.int 0,.int (S 28 (0:Int32).toNatClampNeg),.int 0],[],S)=_ from e1];simp only[Option.bind_some,Option.toList_some,Option.toList_none,List.cons_append,List.nil_append,List.append_nil]
 rw[e1_48_79 hf1,e1_48_80 hf1,if_pos (by decide),if_pos (by decide)]
 refine⟨_,rfl,fun i hi=>C.1 i hi,fun c a b i=>?_,fun c a b i hi=>?_,c6,c19,c20,rfl,rfl,fun i hi=>?_,fun i hi=>?_⟩
 ·rw[own_ne (by omega),own_ne (by omega),own_ne (by omega)];exact C.2.1 c a (by omega) i
 ·rw[own_ne (by omega),own_ne (by omega),own_ne (by omega)];exact C.2.2 c a b i hi
 ·rw[own_ne (by omega),own_ne (by omega),own_ne (i:=(0:Int32).toNatClampNeg) (fun z=>hi z.2)];exact C.2.1 27 (by decide) (by decide) i
 ·rw[own_ne (by omega),own_ne (i:=(0:Int32).toNatClampNeg) (fun z=>hi z.2),own_ne (by omega)];exact C.2.1 28 (by decide) (by decide) i
theorem own_ma3(hf1:Fx f1){S:MS}(k0:S 27 0=3)(x:Int32):f1 (48,0,[.ref 0,.int 0,.int x],[],S)=some (some (.int (S 28 0&&&7)),S):=by
 rw[e1_48_0 hf1,if_neg (by decide),if_pos (by decide),if_pos (by decide)]
 exact if_pos k0
theorem own_abE(hf1:Fx f1){S:MS}(h0:0<S 0 0)(h14:S 0 14=2)(k0:S 27 0=2)(k1:S 27 1=1)(r0:S 29 0 = -1){L:Nat}(hL:L<1000)(h6:S 0 6=Int32.ofNat L){op:Int32}(ho:own_op op):∃m S',f1 (41,0,[.ref 0,.int op],[],S)=some (none,S')∧own_AB m L S S':=by
 have t22:(2:Int32)-2=0:=rfl
 have t21:(2:Int32)-1=1:=rfl
 have n1:(1:Int32).toNatClampNeg=1:=rfl
 have n0:(0:Int32).toNatClampNeg=0:=rfl
 obtain⟨v,ev,hv⟩:=own_riF hf1 S ho (S 28 1)
 have head:∀x,f1 (42,0,[.ref 0,.int op,.int 0,.int 1],[],S)=x→f1 (41,0,[.ref 0,.int op],[],S)=x.bind fun q=>f1 (41,93,[.ref 0,.int op,.int 0,.int 1],q.1.toList++[],q.2):=fun x hx=>by
  rw[e1_41_0 hf1,h14,t22,t21,if_neg (by decide),if_neg (by decide),if_pos (by decide),if_neg (show ¬S 27 (0:Int32).toNatClampNeg=1 from by rw[n0,k0];decide),hx]
 have si:∀x,f1 (42,21,[.ref 0,.int op,.int 0,.int 1],[.int v],S)=x→f1 (42,0,[.ref 0,.int op,.int 0,.int 1],[],S)=x:=fun x hx=>by
  rw[e1_42_0 hf1,if_pos (by decide),if_pos (show S 27 (1:Int32).toNatClampNeg=1 from k1),n1,ev];simp only[Option.bind_some,Option.toList_some,Option.toList_none,List.cons_append,List.nil_append,List.append_nil]
  exact hx
 rcases hv with rfl | rfl | rfl
 ·obtain⟨S1,e1,q0,qc,qk,q6,q19,q20,q27,q28,q27',q28'⟩:=own_maE hf1 h0 k0 r0 hL h6 1
  obtain⟨S2,e2,C,c6,c19,c20,c21⟩:=own_emE hf1 (L:=L+1) (by omega) q6 6 0 (S1 28 1) op
  refine⟨2,Jvm.OM.upd S2 0 14 (S2 0 14-1),?_,fun i a b=>?_,fun c a b i=>?_,fun c a b i hi=>?_,?_,Or.inr (Or.inr ⟨rfl,c6,?_,?_,?_,?_,c19,c20⟩)⟩
  ·rw[head _ (si _ (by rw[e1_42_21 hf1,if_neg (by decide),if_neg (by decide)]))];simp only[Option.bind_some,Option.toList_some,Option.toList_none,List.cons_append,List.nil_append,List.append_nil]
   rw[e1_41_93 hf1,if_pos rfl,e1];simp only[Option.bind_some,Option.toList_some,Option.toList_none,List.cons_append,List.nil_append,List.append_nil]
   rw[e1_41_103 hf1,if_pos (by decide),if_pos (show S1 27 (1:Int32).toNatClampNeg=1 from (q27' 1 (by decide)).trans k1)]
   rw[show f1 (52,0,[.ref 0,.int 6,.int 0,.int (S1 28 (1:Int32).toNatClampNeg),.int op],[],S1)=_ from e2];simp only[Option.bind_some,Option.toList_some,Option.toList_none,List.cons_append,List.nil_append,List.append_nil]
   rw[e1_41_130 hf1,e1_41_158 hf1]
  ·rw[own_ne (by omega)];exact (C.1 i a).trans (q0 i a)
  ·rw[own_ne (by omega)];exact (C.2.1 c a (by omega) i).trans (qc c a b i)
  ·rw[own_ne (by omega)];exact (C.2.2 c a b i (by omega)).trans (qk c a b i hi)
  ·show S2 0 14-1=1
   rw[C.1 14 (by decide),q0 14 (by decide),h14];rfl
  ·exact (C.2.1 27 (by decide) (by decide) 0).trans q27
  ·exact (C.2.1 28 (by decide) (by decide) 0).trans q28
  ·exact (C.2.2 19 (by decide) (by decide) L (by omega)).trans q19
  ·exact (C.2.2 20 (by decide) (by decide) L (by omega)).trans q20
 ·refine⟨1,Jvm.OM.upd S 0 14 1,?_,fun i a b=>own_ne (by omega),fun c a b i=>own_ne (by omega),fun c a b i hi=>own_ne (by omega),rfl,Or.inr (Or.inl ⟨rfl,h6,k0,r0⟩)⟩
  rw[head _ (si _ (by rw[e1_42_21 hf1,if_pos rfl,h14,t21]))];simp only[Option.bind_some,Option.toList_some,Option.toList_none,List.cons_append,List.nil_append,List.append_nil]
  rw[e1_41_93 hf1,if_neg (by decide)]
 ·have rl:∀(T:MS) (x:Nat),x<96→¬T 27 x=3→f1 (47,0,[.ref 0,.int (Int32.ofNat x)],[],T)=some (none,T):=fun T x hx h=>by
   rw[e1_47_0 hf1,if_neg (own_nneg (by omega)),if_pos (show Int32.ofNat x<96 from (own_lt (a:=x) (b:=96) (by omega) (by decide)).mpr hx),if_pos (own_inb (by omega) hx),own_nat (by omega),if_neg h]
  have fz:f1 (45,0,[.ref 0,.int 0,.int 1],[],S)=some (none,Jvm.OM.upd (Jvm.OM.upd (Jvm.OM.upd S 27 0 1) 28 0 0) 0 14 1):=by
   rw[e1_45_0 hf1,show f1 (47,0,[.ref 0,.int 0],[],S)=_ from rl S 0 (by decide) (by rw[k0];decide)];simp only[Option.bind_some,Option.toList_some,Option.toList_none,List.cons_append,List.nil_append,List.append_nil]
   rw[e1_45_5 hf1,show f1 (47,0,[.ref 0,.int 1],[],S)=_ from rl S 1 (by decide) (by rw[k1];decide)];simp only[Option.bind_some,Option.toList_some,Option.toList_none,List.cons_append,List.nil_append,List.append_nil]
   rw[e1_45_10 hf1,if_pos (by decide),h14,t21]
   rfl
  refine⟨0,Jvm.OM.upd (Jvm.OM.upd (Jvm.OM.upd S 27 0 1) 28 0 0) 0 14 1,?_,fun i a b=>?_,fun c a b i=>?_,fun c a b i hi=>?_,rfl,Or.inl ⟨rfl,h6,rfl,rfl⟩⟩
  ·rw[head _ (si _ (by
    rw[e1_42_21 hf1,if_neg (by decide),if_pos rfl,fz]))];simp only[Option.bind_some,Option.toList_some,Option.toList_none,List.cons_append,List.nil_append,List.append_nil]
   rw[e1_42_53 hf1];simp only[Option.bind_some,Option.toList_some,Option.toList_none,List.cons_append,List.nil_append,List.append_nil]
   rw[e1_41_93 hf1,if_neg (by decide)]
  ·rw[own_ne (by omega),own_ne (by omega),own_ne (by omega)]
  ·rw[own_ne (by omega),own_ne (by omega),own_ne (by omega)]
  ·rw[own_ne (by omega),own_ne (by omega),own_ne (by omega)]
theorem own_rwE(hf1:Fx f1){S:MS}(h0:0<S 0 0)(h14:S 0 14=2)(h15:S 0 15=1)(k0:S 27 0=2)(k1:S 27 1=1)(r0:S 29 0 = -1){L:Nat}(hL:L<1000)(h6:S 0 6=Int32.ofNat L)(ho:own_op (S 30 0)):∃m S',f1 (37,0,[.ref 0,.int 0],[],S)=some (none,S')∧own_AB m L (Jvm.OM.upd S 0 15 0) S':=by
 have t11:(1:Int32)-1=0:=rfl
 have n0:(0:Int32).toNatClampNeg=0:=rfl
 have op21:¬S 30 0=21:=by
  rcases ho with h | h | h | h | h | h | h<;>rw[h]<;>decide
 have op20:¬S 30 0=20:=by
  rcases ho with h | h | h | h | h | h | h<;>rw[h]<;>decide
 obtain⟨v,ev,nv⟩:=own_prF hf1 S ho
 obtain⟨m,S1,e1,A⟩:=own_abE hf1 (S:=Jvm.OM.upd S 0 15 0) h0 h14 k0 k1 r0 hL h6 ho
 have p15:S1 0 15=0:=A.1 15 (by decide) (by decide)
 refine⟨m,S1,?_,A⟩
 rw[e1_37_0 hf1,e1_37_2 hf1,h15,t11,n0,if_pos (by decide),if_pos (by decide),if_neg (by decide),if_pos (by decide),if_neg op21,ev];simp only[Option.bind_some,Option.toList_some,Option.toList_none,List.cons_append,List.nil_append,List.append_nil]
 rw[e1_37_48 hf1,if_neg nv,h15,t11,e1_39_0 hf1,if_neg op20,e1];simp only[Option.bind_some,Option.toList_some,Option.toList_none,List.cons_append,List.nil_append,List.append_nil]
 rw[e1_39_18 hf1];simp only[Option.bind_some,Option.toList_some,Option.toList_none,List.cons_append,List.nil_append,List.append_nil]
 rw[e1_37_72 hf1,own_rw0 hf1 p15 0 (by decide)]
end P8
def own_FA(j L:Nat)(S S':MS):Prop:=(∀i,i≠6→i≠11→i≠14→i≠15→S' 0 i=S 0 i)∧(∀c,c≠0→c<27→c≠10→c≠13→c≠14→(c<19∨22<c)→∀i,S' c i=S c i)∧(∀c,(c=10∨c=13∨c=14)→∀i,i≠j→S' c i=S c i)∧∀c,19≤c→c≤22→∀i,i<L→S' c i=S c i
def own_ro(o:Int32):Prop:=o=2∨o=5∨o=6
def own_AB2(L:Nat)(S S':MS):Prop:=(∀i,i≠6→i≠14→i≠15→S' 0 i=S 0 i)∧(∀c,c≠0→(c<19∨(22<c∧c<27))→∀i,S' c i=S c i)∧(∀c,19≤c→c≤22→∀i,i<L→S' c i=S c i)∧S' 0 14=1∧((S' 0 6=Int32.ofNat L∧S' 27 0=1)∨(S' 0 6=Int32.ofNat L∧S' 27 0=2∧S' 29 0 = -1)∨∃m,m≤3∧S' 0 6=Int32.ofNat (L+m)∧S' 27 0=3∧S' 28 0=0∧∀j,j<m→own_ro (S' 19 (L+j)))
def own_Rd(S:MS):Prop:=S 0 11=3∧S 0 16=0∧((S 0 14=1∧S 0 15=0∧(S 27 0=1∨(S 27 0=2∧S 29 0 = -1)))∨(S 0 14=2∧S 0 15=1∧own_op (S 30 0)∧S 27 0=2∧S 29 0 = -1∧(S 27 1=1∨(S 27 1=2∧S 29 1 = -1))))
def own_rhs(r:List (Int32×Int32)):Prop:=(∃k,r=[(1,k)])∨(∃u,r=[(2,u)])∨(∃u op k,r=[(2,u),(op,0),(1,k)]∧own_op op)∨(∃u op w,r=[(2,u),(op,0),(2,w)]∧own_op op)
def own_Tk(S S':MS):Prop:=S' 0 3=S 0 3∧S' 0 0=S 0 0∧S' 0 1=S 0 1∧(∀i,S' 1 i=S 1 i)∧∀i,S' 2 i=S 2 i
theorem own_Tkr(S:MS):own_Tk S S:=⟨rfl,rfl,rfl,fun _=>rfl,fun _=>rfl⟩
theorem own_Tkt{S S' S'':MS}(h:own_Tk S S')(h':own_Tk S' S''):own_Tk S S'':=⟨h'.1.trans h.1,h'.2.1.trans h.2.1,h'.2.2.1.trans h.2.2.1,fun i=>(h'.2.2.2.1 i).trans (h.2.2.2.1 i),fun i=>(h'.2.2.2.2 i).trans (h.2.2.2.2 i)⟩
theorem own_TkE{S S':MS}(h:own_Ex S S'):own_Tk S S':=⟨h.1 3 (by decide) (by decide) (by decide) (by decide),h.1 0 (by decide) (by decide) (by decide) (by decide),h.1 1 (by decide) (by decide) (by decide) (by decide),h.2 1 (by decide) (by decide),h.2 2 (by decide) (by decide)⟩
def own_fl(f1:FT1):MS→List (Int32×Int32)→MS→Prop
 |S,[],S'=>S'=S
 |S,t::r,S'=>∃S1,f1 (24,0,[.ref 0,.int t.1,.int t.2],[],S)=some (some (.int 1),S1)∧own_Tk S S1∧own_fl f1 S1 r S'
theorem own_flA{f1:FT1}:∀ {r1 r2:List (Int32×Int32)} {S S1 S':MS},own_fl f1 S r1 S1→own_fl f1 S1 r2 S'→own_fl f1 S (r1++r2) S'
 |[],r2,S,S1,S',h1,h2=>by
  have e:S1=S:=h1
  rw[e] at h2;exact h2
 |t::r1,r2,S,S1,S',⟨S2,e,k,h1⟩,h2=>⟨S2,e,k,own_flA h1 h2⟩
section A2
variable {f1:FT1}
theorem own_reG(hf1:Fx f1)(S:MS):∃S',f1 (29,0,[.ref 0],[],S)=some (none,S')∧own_Ex S S'∧own_Q S' (S 0 11) 0 0∧S' 31 0=0∧S' 29 1 = -1:=by
 rw[e1_29_0 hf1]
 refine⟨itN (fun j T=>Jvm.OM.upd T 29 j (-1)) 8 (Jvm.OM.upd (Jvm.OM.upd (Jvm.OM.upd (Jvm.OM.upd S 0 14 0) 0 15 0) 0 16 0) 31 0 0),?_,⟨fun i a b c d=>?_,fun c a b i=>?_⟩,⟨?_,?_,?_,?_,?_⟩,?_,?_⟩
 ·refine (own_for (H:=fun x T=>f1 (29,24,[.ref 0,.int x],[],T)) (g:=fun j T=>Jvm.OM.upd T 29 j (-1)) (n:=8) (fun j hj T=>?_) _).trans ?_
  ·show f1 (29,24,[.ref 0,.int (Int32.ofNat j)],[],T)=_
   rw[e1_29_24 hf1,if_pos (show Int32.ofNat j<8 from (own_lt (a:=j) (b:=8) (by omega) (by decide)).mpr hj),if_pos (own_inb (by omega) hj),own_add1,own_nat (by omega)]
  ·show f1 (29,24,[.ref 0,.int (Int32.ofNat 8)],[],_)=_
   rw[e1_29_24 hf1,if_neg (by decide)]
 ·rw[own_fill,if_neg (by omega),own_ne (by omega),own_ne (by omega),own_ne (by omega),own_ne (by omega)]
 ·rw[own_fill,if_neg (by omega),own_ne (by omega),own_ne (by omega),own_ne (by omega),own_ne (by omega)]
 ·rw[own_fill,if_neg (by omega)];rfl
 ·rw[own_fill,if_neg (by omega)];rfl
 ·rw[own_fill,if_neg (by omega)];rfl
 ·rw[own_fill,if_neg (by omega)];rfl
 ·rw[own_fill,if_pos (by omega)]
 ·rw[own_fill,if_neg (by omega)];rfl
 ·rw[own_fill,if_pos (by omega)]
theorem own_fdP(hf1:Fx f1){S:MS}{e:Nat}(he:e<96){ot:Int32}(h:own_Q S 2 (Int32.ofNat e) ot){k:Int32}(hk:k=1∨k=2)(a:Int32):∃S',f1 (24,0,[.ref 0,.int k,.int a],[],S)=some (some (.int 1),S')∧own_Ex S S'∧own_Q S' 3 (Int32.ofNat (e+1)) ot∧S' 27 e=k∧S' 28 e=a∧(∀i,i≠e→S' 27 i=S 27 i)∧(∀i,S' 30 i=S 30 i)∧(∀i,S' 31 i=S 31 i)∧∀i,S' 29 i=S 29 i:=by
 obtain⟨h11,h14,h15,h16,h29⟩:=h
 have pe:∀k:Int32,f1 (38,0,[.ref 0,.int k,.int a],[],S)=some (some (.int 1),Jvm.OM.upd (Jvm.OM.upd (Jvm.OM.upd S 27 e k) 28 e a) 0 14 (Int32.ofNat (e+1))):=fun k=>by
  rw[e1_38_0 hf1,h14,if_neg (own_nneg (by omega)),if_pos (show Int32.ofNat e<96 from (own_lt (a:=e) (b:=96) (by omega) (by decide)).mpr he),if_pos (own_inb (by omega) he),own_add1,own_nat (by omega)]
 have fo:f1 (30,0,[.ref 0,.int k,.int a],[],S)=some (some (.int 1),Jvm.OM.upd (Jvm.OM.upd (Jvm.OM.upd (Jvm.OM.upd S 27 e k) 28 e a) 0 14 (Int32.ofNat (e+1))) 0 11 3):=by
  rw[e1_30_0 hf1]
  rcases hk with rfl | rfl
  ·rw[if_pos rfl,e1_30_10 hf1,if_pos rfl,pe];simp only[Option.bind_some,Option.toList_some,Option.toList_none,List.cons_append,List.nil_append,List.append_nil]
   rw[e1_30_25 hf1,if_neg (by decide)]
  ·rw[if_neg (by decide),if_pos rfl,e1_30_10 hf1,if_neg (by decide),pe];simp only[Option.bind_some,Option.toList_some,Option.toList_none,List.cons_append,List.nil_append,List.append_nil]
   rw[e1_30_25 hf1,if_neg (by decide)]
 refine⟨Jvm.OM.upd (Jvm.OM.upd (Jvm.OM.upd (Jvm.OM.upd S 27 e k) 28 e a) 0 14 (Int32.ofNat (e+1))) 0 11 3,?_,own_Exu (own_Exu (own_Exu (own_Exu (own_Exr S) (by omega)) (by omega)) (by omega)) (by omega),⟨rfl,rfl,h15,h16,h29⟩,?_,?_,fun i hi=>?_,fun _=>rfl,fun _=>rfl,fun _=>rfl⟩
 ·rw[e1_24_0 hf1,if_neg (by rw[h11];decide),if_neg (by rw[h11];decide),if_pos h11,fo];simp only[Option.bind_some,Option.toList_some,Option.toList_none,List.cons_append,List.nil_append,List.append_nil]
  rw[e1_24_54 hf1]
  rfl
 ·rw[own_ne (by omega),own_ne (by omega),own_ne (by omega),own_up,if_pos ⟨rfl,rfl⟩]
 ·rw[own_ne (by omega),own_ne (by omega),own_up,if_pos ⟨rfl,rfl⟩]
 ·rw[own_ne (by omega),own_ne (by omega),own_ne (by omega),own_ne (fun z=>hi z.2)]
theorem own_fdC(hf1:Fx f1){S:MS}{et:Int32}(h:own_Q S 3 et 0)(h31:S 31 0=0){op:Int32}(ho:own_op op)(a:Int32):∃S',f1 (24,0,[.ref 0,.int op,.int a],[],S)=some (some (.int 1),S')∧own_Ex S S'∧own_Q S' 2 et 1∧S' 30 0=op∧(∀i,S' 27 i=S 27 i)∧∀i,S' 29 i=S 29 i:=by
 obtain⟨h11,h14,h15,h16,h29⟩:=h
 have tl:∀(T:MS) (p:Int32),T 0 15=0→own_Ex S T→T 0 14=et→T 0 16=0→T 29 0 = -1→(∀i,T 27 i=S 27 i)→(∀i,T 29 i=S 29 i)→∃S',f1 (32,59,[.ref 0,.int op],[.int p],T)=some (some (.int 1),S')∧own_Ex S S'∧own_Q S' 2 et 1∧S' 30 0=op∧(∀i,S' 27 i=S 27 i)∧∀i,S' 29 i=S 29 i:=fun T p t15 TE t14 t16 t29 t27 t29'=>by
  rw[e1_32_59 hf1,e1_37_0 hf1,own_rw0 hf1 t15 p (by decide)];simp only[Option.bind_some,Option.toList_some,Option.toList_none,List.cons_append,List.nil_append,List.append_nil]
  rw[e1_32_65 hf1,e1_36_0 hf1,t15,if_neg (by decide),if_pos (by decide),if_pos (by decide)];simp only[Option.bind_some,Option.toList_some,Option.toList_none,List.cons_append,List.nil_append,List.append_nil]
  rw[e1_32_70 hf1,if_neg (by decide)]
  exact⟨_,rfl,own_Exu (own_Exu (own_Exu TE (by omega)) (by omega)) (by omega),⟨rfl,t14,rfl,t16,t29⟩,rfl,t27,t29'⟩
 have tb:∃S',f1 (32,0,[.ref 0,.int op],[],S)=some (some (.int 1),S')∧own_Ex S S'∧own_Q S' 2 et 1∧S' 30 0=op∧(∀i,S' 27 i=S 27 i)∧∀i,S' 29 i=S 29 i:=by
  have t12:∃S',f1 (32,12,[.ref 0,.int op],[],S)=some (some (.int 1),S')∧own_Ex S S'∧own_Q S' 2 et 1∧S' 30 0=op∧(∀i,S' 27 i=S 27 i)∧∀i,S' 29 i=S 29 i:=by
   obtain⟨v,ev,-⟩:=own_prF hf1 (Jvm.OM.upd S 31 0 1) ho
   rw[e1_32_12 hf1,h16,if_neg (by decide),if_pos (by decide),if_pos (by decide),if_pos (show S 31 (0:Int32).toNatClampNeg=0 from h31)]
   rw[show f1 (35,0,[.ref 0,.int op],[],Jvm.OM.upd S 31 (0:Int32).toNatClampNeg 1)=_ from ev];simp only[Option.bind_some,Option.toList_some,Option.toList_none,List.cons_append,List.nil_append,List.append_nil]
   exact tl _ _ h15 (own_Exu (own_Exr S) (by omega)) h14 h16 h29 (fun _=>rfl) fun _=>rfl
  obtain⟨v,ev,-⟩:=own_prF hf1 S ho
  rw[e1_32_0 hf1]
  by_cases q:op=10
  ·rw[if_pos q];exact t12
  rw[if_neg q]
  by_cases q':op=11
  ·rw[if_pos q'];exact t12
  rw[if_neg q',ev];simp only[Option.bind_some,Option.toList_some,Option.toList_none,List.cons_append,List.nil_append,List.append_nil]
  exact tl _ _ h15 (own_Exr S) h14 h16 h29 (fun _=>rfl) fun _=>rfl
 obtain⟨S',e,r⟩:=tb
 have ib:f1 (34,0,[.ref 0,.int op],[],S)=some (some (.int 1),S):=by
  rw[e1_34_0 hf1]
  rcases ho with rfl | rfl | rfl | rfl | rfl | rfl | rfl<;>rw[if_neg (by decide),if_neg (by decide)]
 refine⟨S',?_,r⟩
 rw[e1_24_0 hf1,if_neg (by rw[h11];decide),if_neg (by rw[h11];decide),if_neg (by rw[h11];decide),e1_31_0 hf1,ib];simp only[Option.bind_some,Option.toList_some,Option.toList_none,List.cons_append,List.nil_append,List.append_nil]
 rw[e1_31_5 hf1,if_neg (by decide),e];simp only[Option.bind_some,Option.toList_some,Option.toList_none,List.cons_append,List.nil_append,List.append_nil]
 rw[e1_31_13 hf1];simp only[Option.bind_some,Option.toList_some,Option.toList_none,List.cons_append,List.nil_append,List.append_nil]
 rw[e1_24_60 hf1]
 rfl
theorem own_maG(hf1:Fx f1){S:MS}(h0:0<S 0 0)(k0:S 27 0=2)(r0:S 29 0 = -1){L:Nat}(hL:L<1000)(h6:S 0 6=Int32.ofNat L)(x:Int32):∃S',f1 (48,0,[.ref 0,.int 0,.int x],[],S)=some (some (.int 0),S')∧(∀i,i≠6→S' 0 i=S 0 i)∧(∀c,c≠0→(c<19∨(22<c∧c<27)∨29<c)→∀i,S' c i=S c i)∧(∀c,19≤c→c≤22→∀i,i<L→S' c i=S c i)∧S' 0 6=Int32.ofNat (L+1)∧S' 19 L=2∧S' 20 L=0∧S' 27 0=3∧S' 28 0=0∧(∀i,i≠0→S' 27 i=S 27 i)∧(∀i,i≠0→S' 28 i=S 28 i)∧S' 29 0=0∧∀i,i≠0→S' 29 i=S 29 i:=by
 have al:f1 (49,0,[.ref 0,.int 0,.int x],[],S)=some (some (.int 0),S):=by
  rw[e1_49_0 hf1,e1_49_2 hf1,if_pos h0,if_pos (by decide),if_pos (by decide)]
  exact if_pos (show S 29 0<0 by rw[r0];decide)
 obtain⟨S1,e1,C,c6,c19,c20,c21⟩:=own_emE hf1 (L:=L) (by omega) h6 2 0 (S 28 0) 0
 rw[e1_48_0 hf1,if_neg (by decide),if_pos (by decide),if_pos (by decide),if_neg (show ¬S 27 (0:Int32).toNatClampNeg=3 from by rw[show (0:Int32).toNatClampNeg=0 from rfl,k0];decide),al];simp only[Option.bind_some,Option.toList_some,Option.toList_none,List.cons_append,List.nil_append,List.append_nil]
 rw[e1_48_40 hf1,if_neg (show ¬S 27 (0:Int32).toNatClampNeg=1 from by rw[show (0:Int32).toNatClampNeg=0 from rfl,k0];decide),if_pos (by decide)]
 rw[show f1 (52,0,[.ref 0,.int 2,.int 0,.int (S 28 (0:Int32).toNatClampNeg),.int 0],[],S)=_ from e1];simp only[Option.bind_some,Option.toList_some,Option.toList_none,List.cons_append,List.nil_append,List.append_nil]
 rw[e1_48_79 hf1,e1_48_80 hf1,if_pos (by decide),if_pos (by decide)]
 refine⟨_,rfl,fun i hi=>C.1 i hi,fun c a b i=>?_,fun c a b i hi=>?_,c6,c19,c20,rfl,rfl,fun i hi=>?_,fun i hi=>?_,rfl,fun i hi=>?_⟩
 ·rw[own_ne (by omega),own_ne (by omega),own_ne (by omega)];exact C.2.1 c a (by omega) i
 ·rw[own_ne (by omega),own_ne (by omega),own_ne (by omega)];exact C.2.2 c a b i hi
 ·rw[own_ne (by omega),own_ne (by omega),own_ne (i:=(0:Int32).toNatClampNeg) (fun z=>hi z.2)];exact C.2.1 27 (by decide) (by decide) i
 ·rw[own_ne (by omega),own_ne (i:=(0:Int32).toNatClampNeg) (fun z=>hi z.2),own_ne (by omega)];exact C.2.1 28 (by decide) (by decide) i
 ·show Jvm.OM.upd (Jvm.OM.upd (Jvm.OM.upd S1 27 0 3) 28 0 0) 29 0 0 29 i=S 29 i
  rw[own_ne (by omega),own_ne (by omega),own_ne (by omega)];exact C.2.1 29 (by decide) (by decide) i
theorem own_ab2(hf1:Fx f1){S:MS}(h0:1<S 0 0)(h14:S 0 14=2)(k0:S 27 0=2)(k1:S 27 1=2)(r0:S 29 0 = -1)(r1:S 29 1 = -1){L:Nat}(hL:L<1000)(h6:S 0 6=Int32.ofNat L)(op:Int32):∃S',f1 (41,0,[.ref 0,.int op],[],S)=some (none,S')∧(∀i,i≠6→i≠14→S' 0 i=S 0 i)∧(∀c,c≠0→(c<19∨(22<c∧c<27))→∀i,S' c i=S c i)∧(∀c,19≤c→c≤22→∀i,i<L→S' c i=S c i)∧S' 0 14=1∧S' 0 6=Int32.ofNat (L+3)∧S' 27 0=3∧S' 28 0=0∧∀j,j<3→own_ro (S' 19 (L+j)):=by
 have n1:(1:Int32).toNatClampNeg=1:=rfl
 have n0:(0:Int32).toNatClampNeg=0:=rfl
 have h0':0<S 0 0:=Int32.lt_trans (by decide) h0
 obtain⟨S1,e1,q0,qc,qk,q6,q19,q20,q27,q28,q27',q28',q29⟩:=own_maG hf1 h0' k0 r0 hL h6 1
 have s14:S1 0 14=2:=(q0 14 (by decide)).trans h14
 have al:f1 (49,0,[.ref 0,.int 1,.int 0],[],S1)=some (some (.int 1),S1):=by
  rw[e1_49_0 hf1,e1_49_2 hf1,q0 0 (by decide),if_pos h0',if_pos (by decide),if_pos (by decide),if_neg (show ¬S1 29 (0:Int32).toNatClampNeg<0 from by rw[n0,q29.1];decide),e1_49_2 hf1,q0 0 (by decide),show (0:Int32)+1=1 from rfl,if_pos h0,if_pos (by decide),if_pos (by decide)]
  exact if_pos (show S1 29 1<0 by rw[q29.2 1 (by decide),r1];decide)
 obtain⟨S2,e2,C,c6,c19,c20,c21⟩:=own_emE hf1 (S:=S1) (L:=L+1) (by omega) q6 2 1 (S1 28 1) 0
 have k1':S1 27 1=2:=(q27' 1 (by decide)).trans k1
 have m2:f1 (48,0,[.ref 0,.int 1,.int 0],[],S1)=some (some (.int 1),Jvm.OM.upd (Jvm.OM.upd (Jvm.OM.upd S2 27 1 3) 28 1 1) 29 1 1):=by
  rw[e1_48_0 hf1,if_neg (by decide),if_pos (by decide),if_pos (by decide),if_neg (show ¬S1 27 (1:Int32).toNatClampNeg=3 from by rw[n1,k1'];decide),al];simp only[Option.bind_some,Option.toList_some,Option.toList_none,List.cons_append,List.nil_append,List.append_nil]
  rw[e1_48_40 hf1,if_neg (show ¬S1 27 (1:Int32).toNatClampNeg=1 from by rw[n1,k1'];decide),if_pos (by decide)]
  rw[show f1 (52,0,[.ref 0,.int 2,.int 1,.int (S1 28 (1:Int32).toNatClampNeg),.int 0],[],S1)=_ from e2];simp only[Option.bind_some,Option.toList_some,Option.toList_none,List.cons_append,List.nil_append,List.append_nil]
  rw[e1_48_79 hf1,e1_48_80 hf1,if_pos (by decide),if_pos (by decide)]
  rfl
 generalize hU:Jvm.OM.upd (Jvm.OM.upd (Jvm.OM.upd S2 27 1 3) 28 1 1) 29 1 1=U at m2
 have u0:∀i,U 0 i=S2 0 i:=fun i=>by rw[←hU,own_ne (by omega),own_ne (by omega),own_ne (by omega)]
 have uc:∀c,c<27→∀i,U c i=S2 c i:=fun c hc i=>by rw[←hU,own_ne (by omega),own_ne (by omega),own_ne (by omega)]
 have u271:U 27 1=3:=by rw[←hU];rfl
 have u281:U 28 1=1:=by rw[←hU];rfl
 have u291:U 29 1=1:=by rw[←hU];rfl
 have u270:U 27 0=3:=by
  rw[←hU,own_ne (by omega),own_ne (by omega),own_ne (by omega)]
  exact (C.2.1 27 (by decide) (by decide) 0).trans q27
 have u280:U 28 0=0:=by
  rw[←hU,own_ne (by omega),own_ne (by omega),own_ne (by omega)]
  exact (C.2.1 28 (by decide) (by decide) 0).trans q28
 clear hU
 obtain⟨S3,e3,D,d6,d19,d20,d21⟩:=own_emE hf1 (S:=U) (L:=L+2) (by omega) ((u0 6).trans c6) 5 0 1 op
 have rl:f1 (47,0,[.ref 0,.int 1],[],S3)=some (none,Jvm.OM.upd S3 29 1 (-1)):=by
  have a27:S3 27 1=3:=(D.2.1 27 (by decide) (by decide) 1).trans u271
  have a28:S3 28 1=1:=(D.2.1 28 (by decide) (by decide) 1).trans u281
  have a29:S3 29 1=1:=(D.2.1 29 (by decide) (by decide) 1).trans u291
  rw[e1_47_0 hf1,if_neg (by decide),if_pos (by decide),if_pos (by decide),n1,if_pos a27,a28,if_pos (by decide),show ((1:Int32)&&&7).toNatClampNeg=1 from rfl,if_pos a29]
 refine⟨Jvm.OM.upd (Jvm.OM.upd S3 29 1 (-1)) 0 14 (Jvm.OM.upd S3 29 1 (-1) 0 14-1),?_,fun i a b=>?_,fun c a b i=>?_,fun c a b i hi=>?_,?_,?_,?_,?_,fun j hj=>?_⟩
 ·rw[e1_41_0 hf1,h14,show (2:Int32)-2=0 from rfl,show (2:Int32)-1=1 from rfl,if_neg (by decide),if_neg (by decide),if_pos (by decide),if_neg (show ¬S 27 (0:Int32).toNatClampNeg=1 from by rw[n0,k0];decide),e1_42_0 hf1,if_pos (by decide),if_neg (show ¬S 27 (1:Int32).toNatClampNeg=1 from by rw[n1,k1];decide),if_pos (by decide),if_neg (show ¬S 27 (0:Int32).toNatClampNeg=1 from by rw[n0,k0];decide)];simp only[Option.bind_some,Option.toList_some,Option.toList_none,List.cons_append,List.nil_append,List.append_nil]
  rw[e1_41_93 hf1,if_pos rfl,e1];simp only[Option.bind_some,Option.toList_some,Option.toList_none,List.cons_append,List.nil_append,List.append_nil]
  rw[e1_41_103 hf1,if_pos (by decide),if_neg (show ¬S1 27 (1:Int32).toNatClampNeg=1 from by rw[n1,k1'];decide),m2];simp only[Option.bind_some,Option.toList_some,Option.toList_none,List.cons_append,List.nil_append,List.append_nil]
  rw[e1_41_140 hf1,e3];simp only[Option.bind_some,Option.toList_some,Option.toList_none,List.cons_append,List.nil_append,List.append_nil]
  rw[e1_41_152 hf1,rl];simp only[Option.bind_some,Option.toList_some,Option.toList_none,List.cons_append,List.nil_append,List.append_nil]
  rw[e1_41_158x hf1]
 ·rw[own_ne (by omega),own_ne (by omega)];exact (D.1 i a).trans ((u0 i).trans ((C.1 i a).trans (q0 i a)))
 ·rw[own_ne (by omega),own_ne (by omega)];exact (D.2.1 c a (by omega) i).trans ((uc c (by omega) i).trans ((C.2.1 c a (by omega) i).trans (qc c a (by omega) i)))
 ·rw[own_ne (by omega),own_ne (by omega)];exact (D.2.2 c a b i (by omega)).trans ((uc c (by omega) i).trans ((C.2.2 c a b i (by omega)).trans (qk c a b i hi)))
 ·show S3 0 14-1=1
  rw[D.1 14 (by decide),u0,C.1 14 (by decide),s14];rfl
 ·rw[own_ne (by omega),own_ne (by omega)];exact d6
 ·rw[own_ne (by omega),own_ne (by omega)];exact (D.2.1 27 (by decide) (by decide) 0).trans u270
 ·rw[own_ne (by omega),own_ne (by omega)];exact (D.2.1 28 (by decide) (by decide) 0).trans u280
 ·rw[own_ne (by omega),own_ne (by omega)]
  have:j=0∨j=1∨j=2:=by omega
  rcases this with rfl | rfl | rfl
  ·rw[D.2.2 19 (by decide) (by decide) _ (by omega),uc 19 (by decide),C.2.2 19 (by decide) (by decide) _ (by omega)];exact Or.inl q19
  ·rw[D.2.2 19 (by decide) (by decide) _ (by omega),uc 19 (by decide)];exact Or.inl c19
  ·exact Or.inr (Or.inl d19)
theorem own_rd2(hf1:Fx f1){S:MS}(h0:1<S 0 0)(R:own_Rd S){L:Nat}(hL:L<1000)(h6:S 0 6=Int32.ofNat L):∃S',f1 (37,0,[.ref 0,.int 0],[],S)=some (none,S')∧own_AB2 L S S':=by
 have h0':0<S 0 0:=Int32.lt_trans (by decide) h0
 obtain⟨h11,h16,h | ⟨h14,h15,ho,k0,r0,k1 | ⟨k1,r1⟩⟩⟩:=R
 ·obtain⟨h14,h15,k⟩:=h
  refine⟨S,?_,fun _ _ _ _=>rfl,fun _ _ _ _=>rfl,fun _ _ _ _ _=>rfl,h14,?_⟩
  ·rw[e1_37_0 hf1];exact own_rw0 hf1 h15 0 (by decide)
  ·rcases k with k | ⟨k,r⟩
   ·exact Or.inl ⟨h6,k⟩
   ·exact Or.inr (Or.inl ⟨h6,k,r⟩)
 ·obtain⟨m,S',e,a0,ac,ak,a14,am⟩:=own_rwE hf1 h0' h14 h15 k0 k1 r0 hL h6 ho
  refine⟨S',e,fun i a b c=>(a0 i a b).trans (own_ne (by omega)),fun c a b i=>(ac c a (by omega) i).trans (own_ne (by omega)),fun c a b i hi=>(ak c a b i hi).trans (own_ne (by omega)),a14,?_⟩
  rcases am with⟨rfl,b6,b27,b28⟩ | ⟨rfl,b6,b27,b29⟩ | ⟨rfl,b6,b27,b28,b19,b20,b19',b20'⟩
  ·exact Or.inl ⟨b6,b27⟩
  ·exact Or.inr (Or.inl ⟨b6,b27,b29⟩)
  ·refine Or.inr (Or.inr ⟨2,by omega,b6,b27,b28,fun j hj=>?_⟩)
   have:j=0∨j=1:=by omega
   rcases this with rfl | rfl
   ·exact Or.inl b19
   ·exact Or.inr (Or.inr b19')
 ·have t11:(1:Int32)-1=0:=rfl
  have n0:(0:Int32).toNatClampNeg=0:=rfl
  have op21:¬S 30 0=21:=by
   rcases ho with h | h | h | h | h | h | h<;>rw[h]<;>decide
  have op20:¬S 30 0=20:=by
   rcases ho with h | h | h | h | h | h | h<;>rw[h]<;>decide
  obtain⟨v,ev,nv⟩:=own_prF hf1 S ho
  obtain⟨S1,e1,a0,ac,ak,a14,a6,a27,a28,a19⟩:=own_ab2 hf1 (S:=Jvm.OM.upd S 0 15 0) h0 h14 k0 k1 r0 r1 hL h6 (S 30 0)
  have p15:S1 0 15=0:=a0 15 (by decide) (by decide)
  refine⟨S1,?_,fun i a b c=>(a0 i a b).trans (own_ne (by omega)),fun c a b i=>(ac c a b i).trans (own_ne (by omega)),fun c a b i hi=>(ak c a b i hi).trans (own_ne (by omega)),a14,Or.inr (Or.inr ⟨3,by omega,a6,a27,a28,a19⟩)⟩
  rw[e1_37_0 hf1,e1_37_2 hf1,h15,t11,n0,if_pos (by decide),if_pos (by decide),if_neg (by decide),if_pos (by decide),if_neg op21,ev];simp only[Option.bind_some,Option.toList_some,Option.toList_none,List.cons_append,List.nil_append,List.append_nil]
  rw[e1_37_48 hf1,if_neg nv,h15,t11,e1_39_0 hf1,if_neg op20,e1];simp only[Option.bind_some,Option.toList_some,Option.toList_none,List.cons_append,List.nil_append,List.append_nil]
  rw[e1_39_18 hf1];simp only[Option.bind_some,Option.toList_some,Option.toList_none,List.cons_append,List.nil_append,List.append_nil]
  rw[e1_37_72 hf1,own_rw0 hf1 p15 0 (by decide)]
theorem own_flE(hf1:Fx f1){S:MS}(Q:own_Q S 2 0 0)(r1:S 29 1 = -1)(h31:S 31 0=0){r:List (Int32×Int32)}(hr:own_rhs r):∃S',own_fl f1 S r S'∧own_Ex S S'∧own_Rd S':=by
 have one:∀k a,(k=1∨k=2)→∃S',f1 (24,0,[.ref 0,.int k,.int a],[],S)=some (some (.int 1),S')∧own_Ex S S'∧own_Q S' 3 1 0∧S' 27 0=k∧S' 29 1 = -1∧S' 31 0=0:=fun k a hk=>by
  obtain⟨S',e,E,Q',k0,-,-,-,s31,s29⟩:=own_fdP hf1 (e:=0) (by omega) (ot:=0) Q hk a
  exact⟨S',e,E,Q',k0,(s29 1).trans r1,(s31 0).trans h31⟩
 have two:∀u op k a,own_op op→(k=1∨k=2)→∃S',own_fl f1 S [(2,u),(op,0),(k,a)] S'∧own_Ex S S'∧own_Rd S':=fun u op k a ho hk=>by
  obtain⟨S1,e1,E1,Q1,k1,r1',h31'⟩:=one 2 u (Or.inr rfl)
  obtain⟨S2,e2,E2,Q2,k2,k2',s29⟩:=own_fdC hf1 Q1 h31' ho 0
  obtain⟨S3,e3,E3,Q3,k3,-,k3',k30,-,s29'⟩:=own_fdP hf1 (e:=1) (by omega) (ot:=1) Q2 hk a
  refine⟨S3,⟨S1,e1,own_TkE E1,S2,e2,own_TkE E2,S3,e3,own_TkE E3,rfl⟩,own_Ext E1 (own_Ext E2 E3),Q3.1,Q3.2.2.2.1,Or.inr ⟨Q3.2.1,Q3.2.2.1,by rw[k30,k2];exact ho,?_,Q3.2.2.2.2,?_⟩⟩
  ·rw[k3' 0 (by decide),k2'];exact k1
  ·rcases hk with rfl | rfl
   ·exact Or.inl k3
   ·exact Or.inr ⟨k3,by rw[s29',s29];exact r1'⟩
 rcases hr with⟨k,rfl⟩ | ⟨u,rfl⟩ | ⟨u,op,k,rfl,ho⟩ | ⟨u,op,w,rfl,ho⟩
 ·obtain⟨S1,e1,E1,Q1,k1,-,-⟩:=one 1 k (Or.inl rfl)
  exact⟨S1,⟨S1,e1,own_TkE E1,rfl⟩,E1,Q1.1,Q1.2.2.2.1,Or.inl ⟨Q1.2.1,Q1.2.2.1,Or.inl k1⟩⟩
 ·obtain⟨S1,e1,E1,Q1,k1,-,-⟩:=one 2 u (Or.inr rfl)
  exact⟨S1,⟨S1,e1,own_TkE E1,rfl⟩,E1,Q1.1,Q1.2.2.2.1,Or.inl ⟨Q1.2.1,Q1.2.2.1,Or.inr ⟨k1,Q1.2.2.2.2⟩⟩⟩
 ·exact two u op 1 k ho (Or.inl rfl)
 ·exact two u op 2 w ho (Or.inr rfl)
end A2
def own_on:Option Nat→Int32
 |none => -1
 |some k=>Int32.ofNat k
def own_CA(S:MS)(s p q v:Nat):Prop:=∃m,m≤3∧q=p+m+2∧S 9 s=Int32.ofNat p∧S 10 s=Int32.ofNat (p+m+1)∧(∀j,j<m→own_ro (S 19 (p+j)))∧S 20 (p+m)=Int32.ofNat v∧S 19 (p+m+1)=8∧S 14 s=S 21 (p+m)∧((S 19 (p+m)=4∧S 13 s=2)∨(S 19 (p+m)=3∧S 13 s=3))
def own_CC(S:MS)(s p q:Nat):Prop:=∃m,m≤3∧q=p+m+1∧S 9 s=Int32.ofNat p∧S 10 s=Int32.ofNat (p+m)∧(∀j,j<m→own_ro (S 19 (p+j)))∧(S 19 (p+m)=9∨S 19 (p+m)=10)
section B2
variable {f1:FT1}
theorem own_faG(hf1:Fx f1){j L v:Nat}(hj:j<32)(hL:L<900){S T:MS}(h0:1<S 0 0)(e12:S 0 12=Int32.ofNat j)(v4:S 4 j=Int32.ofNat v)(e9:S 9 j=Int32.ofNat L)(A:own_AB2 L S T):∃S' q,f1 (50,0,[.ref 0],[],T)=some (none,S')∧own_FA j L S S'∧q≤L+5∧S' 0 6=Int32.ofNat q∧own_CA S' j L q v:=by
 obtain⟨a0,ac,ak,a14,am⟩:=A
 have h0':0<S 0 0:=Int32.lt_trans (by decide) h0
 have ib:inb (Int32.ofNat j) 32=true:=own_inb (by omega) hj
 have jl:Int32.ofNat j<32:=(own_lt (a:=j) (b:=32) (by omega) (by decide)).mpr hj
 have t12:T 0 12=Int32.ofNat j:=(a0 12 (by decide) (by decide) (by decide)).trans e12
 have t4:T 4 j=Int32.ofNat v:=(ac 4 (by decide) (by omega) j).trans v4
 have t9:T 9 j=Int32.ofNat L:=(ac 9 (by decide) (by omega) j).trans e9
 have f0:∀i,i≠6→i≠11→i≠14→i≠15→T 0 i=S 0 i:=fun i a b c d=>a0 i a c d
 have fc:∀c,c≠0→c<27→(c<19∨22<c)→∀i,T c i=S c i:=fun c a b d i=>ac c a (by omega) i
 have fk:∀c,19≤c→c≤22→∀i,i<L→T c i=S c i:=ak
 have stop:∀(U:MS) (n:Nat) (rk rv:Int32),n<1000→U 0 6=Int32.ofNat n→∃S',((f1 (52,0,[.ref 0,.int 8,.int 0,.int (-2),.int 0],[],Jvm.OM.upd (Jvm.OM.upd U 13 j rk) 14 j rv)).bind fun q=>f1 (50,130,[.ref 0,.int (Int32.ofNat j),.int (Int32.ofNat v)],q.1.toList++[.int (Int32.ofNat j),.ref 10],q.2))=some (none,S')∧(∀i,i≠6→S' 0 i=U 0 i)∧(∀c,c≠0→c≠10→c≠13→c≠14→(c<19∨22<c)→∀i,S' c i=U c i)∧(∀c,(c=10∨c=13∨c=14)→∀i,i≠j→S' c i=U c i)∧(∀c,19≤c→c≤22→∀i,i<n→S' c i=U c i)∧S' 0 6=Int32.ofNat (n+1)∧S' 10 j=Int32.ofNat n∧S' 19 n=8∧S' 13 j=rk∧S' 14 j=rv:=fun U n rk rv hn u6=>by
  obtain⟨S2,e2,C,c6,c19,c20,c21⟩:=own_emE hf1 (S:=Jvm.OM.upd (Jvm.OM.upd U 13 j rk) 14 j rv) (L:=n) (by omega) u6 8 0 (-2) 0
  rw[e2];simp only[Option.bind_some,Option.toList_some,Option.toList_none,List.cons_append,List.nil_append,List.append_nil]
  rw[e1_50_130 hf1,if_pos ib,own_nat (by omega)]
  refine⟨_,rfl,fun i hi=>?_,fun c h0 h10 h13 h14 h i=>?_,fun c hc i hi=>?_,fun c a b i hi=>?_,?_,?_,?_,?_,?_⟩
  ·rw[own_ne (by omega),C.1 i hi,own_ne (by omega),own_ne (by omega)]
  ·rw[own_ne (by omega),C.2.1 c h0 h,own_ne (by omega),own_ne (by omega)]
  ·rw[own_ne (by omega),C.2.1 c (by omega) (by omega),own_ne (by omega),own_ne (by omega)]
  ·rw[own_ne (by omega),C.2.2 c a b i hi,own_ne (by omega),own_ne (by omega)]
  ·rw[own_ne (by omega)];exact c6
  ·rw[own_up,if_pos ⟨rfl,rfl⟩]
  ·rw[own_ne (by omega)];exact c19
  ·rw[own_ne (by omega),C.2.1 13 (by decide) (by decide),own_ne (by omega),own_up,if_pos ⟨rfl,rfl⟩]
  ·rw[own_ne (by omega),C.2.1 14 (by decide) (by decide),own_up,if_pos ⟨rfl,rfl⟩]
 have reg:∀(U:MS) (m:Nat),m≤3→U 0 6=Int32.ofNat (L+m)→(∀i,i≠6→i≠11→i≠14→i≠15→U 0 i=S 0 i)→(∀c,c≠0→c<27→(c<19∨22<c)→∀i,U c i=S c i)→(∀c,19≤c→c≤22→∀i,i<L→U c i=S c i)→(∀j,j<m→own_ro (U 19 (L+j)))→∃S' q,f1 (50,91,[.ref 0,.int (Int32.ofNat j),.int (Int32.ofNat v)],[.int 0],U)=some (none,S')∧own_FA j L S S'∧q≤L+5∧S' 0 6=Int32.ofNat q∧own_CA S' j L q v:=fun U m hm u6 u0 uc uk ur=>by
  obtain⟨S2,e2,C,c6,c19,c20,c21⟩:=own_emE hf1 (S:=U) (L:=L+m) (by omega) u6 3 (Int32.ofNat v) 0 0
  obtain⟨S3,e3,g0,gc,gj,gk,g6,g10,g19,g13,g14⟩:=stop S2 (L+m+1) 3 0 (by omega) c6
  refine⟨S3,L+m+2,?_,⟨fun i a b c d=>(g0 i a).trans ((C.1 i a).trans (u0 i a b c d)),fun c a b d e f g i=>(gc c a d e f g i).trans ((C.2.1 c a g i).trans (uc c a b g i)),fun c hc i hi=>(gj c hc i hi).trans ((C.2.1 c (by omega) (by omega) i).trans (uc c (by omega) (by omega) (by omega) i)),fun c a b i hi=>(gk c a b i (by omega)).trans ((C.2.2 c a b i (by omega)).trans (uk c a b i hi))⟩,by omega,g6,m,hm,rfl,?_,g10,fun k hk=>?_,?_,g19,?_,Or.inr ⟨?_,g13⟩⟩
  ·rw[e1_50_91 hf1,e2];simp only[Option.bind_some,Option.toList_some,Option.toList_none,List.cons_append,List.nil_append,List.append_nil]
   rw[e1_50_100 hf1,if_pos ib,own_nat (by omega),e3]
  ·rw[gc 9 (by decide) (by decide) (by decide) (by decide) (by decide),C.2.1 9 (by decide) (by decide),uc 9 (by decide) (by decide) (by decide)];exact e9
  ·rw[gk 19 (by decide) (by decide) (L+k) (by omega),C.2.2 19 (by decide) (by decide) (L+k) (by omega)];exact ur k hk
  ·rw[gk 20 (by decide) (by decide) (L+m) (by omega)];exact c20
  ·rw[gk 21 (by decide) (by decide) (L+m) (by omega),g14];exact c21.symm
  ·rw[gk 19 (by decide) (by decide) (L+m) (by omega)];exact c19
 rw[e1_50_0 hf1,t12,a14,if_neg (own_nneg (by omega)),if_pos jl,if_pos ib,if_neg (by decide),own_nat (by omega),t4]
 rcases am with⟨b6,b27⟩ | ⟨b6,b27,b29⟩ | ⟨m,hm,b6,b27,b28,b19⟩
 ·-- a constant
  obtain⟨S1,e1,C,c6,c19,c20,c21⟩:=own_emE hf1 (S:=T) (L:=L) (by omega) b6 4 (Int32.ofNat v) (T 28 0) 0
  have s28:S1 28 0=T 28 0:=C.2.1 28 (by decide) (by decide) 0
  obtain⟨S2,e2,g0,gc,gj,gk,g6,g10,g19,g13,g14⟩:=stop S1 (L+1) 2 (T 28 0) (by omega) c6
  rw[if_pos b27,e1];simp only[Option.bind_some,Option.toList_some,Option.toList_none,List.cons_append,List.nil_append,List.append_nil]
  rw[e1_50_54 hf1,if_pos ib,s28,own_nat (by omega),e2]
  refine⟨S2,L+2,rfl,⟨fun i a b c d=>(g0 i a).trans ((C.1 i a).trans (f0 i a b c d)),fun c a b d e f g i=>(gc c a d e f g i).trans ((C.2.1 c a g i).trans (fc c a b g i)),fun c hc i hi=>(gj c hc i hi).trans ((C.2.1 c (by omega) (by omega) i).trans (fc c (by omega) (by omega) (by omega) i)),fun c a b i hi=>(gk c a b i (by omega)).trans ((C.2.2 c a b i hi).trans (fk c a b i hi))⟩,by omega,g6,0,by decide,rfl,?_,g10,fun k hk=>absurd hk (Nat.not_lt_zero _),?_,g19,?_,Or.inl ⟨?_,g13⟩⟩
  ·rw[gc 9 (by decide) (by decide) (by decide) (by decide) (by decide),C.2.1 9 (by decide) (by decide)];exact t9
  ·rw[gk 20 (by decide) (by decide) (L+0) (by omega)];exact c20
  ·rw[gk 21 (by decide) (by decide) (L+0) (by omega),g14];exact c21.symm
  ·rw[gk 19 (by decide) (by decide) (L+0) (by omega)];exact c19
 ·-- a variable
  obtain⟨S1,e1,q0,qc,qk,q6,q19,q20,q27,q28,q27',q28'⟩:=own_maE hf1 (show 0<T 0 0 by rw[f0 0 (by decide) (by decide) (by decide) (by decide)];exact h0') b27 b29 (L:=L) (by omega) b6 (-1)
  rw[if_neg (by rw[b27];decide),e1_50_77 hf1,a14,if_neg (by decide),e1];simp only[Option.bind_some,Option.toList_some,Option.toList_none,List.cons_append,List.nil_append,List.append_nil]
  exact reg S1 1 (by omega) q6 (fun i a b c d=>(q0 i a).trans (f0 i a b c d)) (fun c a b d i=>(qc c a (by omega) i).trans (fc c a b d i)) (fun c a b i hi=>(qk c a b i hi).trans (fk c a b i hi)) fun k hk=>by
   have:k=0:=by omega
   subst this
   exact Or.inl q19
 ·-- an operation
  have m3:=own_ma3 hf1 b27 (-1)
  rw[b28,show (0:Int32)&&&7=0 from rfl] at m3
  rw[if_neg (by rw[b27];decide),e1_50_77 hf1,a14,if_neg (by decide),m3];simp only[Option.bind_some,Option.toList_some,Option.toList_none,List.cons_append,List.nil_append,List.append_nil]
  exact reg T m hm b6 f0 fc fk b19
theorem own_fcG(hf1:Fx f1){j L:Nat}(hj:j<32)(hL:L<900){S T:MS}(h0:1<S 0 0)(e12:S 0 12=Int32.ofNat j)(e9:S 9 j=Int32.ofNat L)(A:own_AB2 L S T):∃S' q,f1 (51,0,[.ref 0],[],T)=some (none,S')∧own_FA j L S S'∧q≤L+5∧S' 0 6=Int32.ofNat q∧own_CC S' j L q:=by
 obtain⟨a0,ac,ak,a14,am⟩:=A
 have h0':0<S 0 0:=Int32.lt_trans (by decide) h0
 have ib:inb (Int32.ofNat j) 32=true:=own_inb (by omega) hj
 have jl:Int32.ofNat j<32:=(own_lt (a:=j) (b:=32) (by omega) (by decide)).mpr hj
 have t12:T 0 12=Int32.ofNat j:=(a0 12 (by decide) (by decide) (by decide)).trans e12
 have t9:T 9 j=Int32.ofNat L:=(ac 9 (by decide) (by omega) j).trans e9
 have f0:∀i,i≠6→i≠11→i≠14→i≠15→T 0 i=S 0 i:=fun i a b c d=>a0 i a c d
 have fc:∀c,c≠0→c<27→(c<19∨22<c)→∀i,T c i=S c i:=fun c a b d i=>ac c a (by omega) i
 have fin:∀(U:MS) (m:Nat) (op a:Int32),(op=9∨op=10)→m≤3→U 0 6=Int32.ofNat (L+m)→(∀i,i≠6→i≠11→i≠14→i≠15→U 0 i=S 0 i)→(∀c,c≠0→c<27→(c<19∨22<c)→∀i,U c i=S c i)→(∀c,19≤c→c≤22→∀i,i<L→U c i=S c i)→(∀j,j<m→own_ro (U 19 (L+j)))→∃S1,f1 (52,0,[.ref 0,.int op,.int a,.int (-2),.int (-2)],[],U)=some (some (.int (Int32.ofNat (L+m))),S1)∧own_FA j L S (Jvm.OM.upd S1 10 j (Int32.ofNat (L+m)))∧S1 0 6=Int32.ofNat (L+m+1)∧own_CC (Jvm.OM.upd S1 10 j (Int32.ofNat (L+m))) j L (L+m+1):=fun U m op a ho hm u6 u0 uc uk ur=>by
  obtain⟨S2,e2,C,c6,c19,c20,c21⟩:=own_emE hf1 (S:=U) (L:=L+m) (by omega) u6 op a (-2) (-2)
  refine⟨S2,e2,⟨fun i a b c d=>?_,fun c a b d e f g i=>?_,fun c hc i hi=>?_,fun c a b i hi=>?_⟩,c6,m,hm,rfl,?_,?_,fun k hk=>?_,?_⟩
  ·rw[own_ne (by omega)];exact (C.1 i a).trans (u0 i a b c d)
  ·rw[own_ne (by omega)];exact (C.2.1 c a g i).trans (uc c a b g i)
  ·rw[own_ne (by omega)];exact (C.2.1 c (by omega) (by omega) i).trans (uc c (by omega) (by omega) (by omega) i)
  ·rw[own_ne (by omega)];exact (C.2.2 c a b i (by omega)).trans (uk c a b i hi)
  ·rw[own_ne (by omega)];exact (C.2.1 9 (by decide) (by decide) j).trans ((uc 9 (by decide) (by decide) (by decide) j).trans e9)
  ·rw[own_up,if_pos ⟨rfl,rfl⟩]
  ·rw[own_ne (by omega),C.2.2 19 (by decide) (by decide) _ (by omega)];exact ur k hk
  ·rw[own_ne (by omega),c19];exact ho
 have reg:∀(U:MS) (m:Nat),m≤3→U 0 6=Int32.ofNat (L+m)→(∀i,i≠6→i≠11→i≠14→i≠15→U 0 i=S 0 i)→(∀c,c≠0→c<27→(c<19∨22<c)→∀i,U c i=S c i)→(∀c,19≤c→c≤22→∀i,i<L→U c i=S c i)→(∀j,j<m→own_ro (U 19 (L+j)))→∃S' q,f1 (51,79,[.ref 0,.int (Int32.ofNat j)],[.int 0],U)=some (none,S')∧own_FA j L S S'∧q≤L+5∧S' 0 6=Int32.ofNat q∧own_CC S' j L q:=fun U m hm u6 u0 uc uk ur=>by
  obtain⟨S1,e1,F,s6,cc⟩:=fin U m 9 0 (Or.inl rfl) hm u6 u0 uc uk ur
  refine⟨_,L+m+1,?_,F,by omega,?_,cc⟩
  ·rw[e1_51_79 hf1,e1];simp only[Option.bind_some,Option.toList_some,Option.toList_none,List.cons_append,List.nil_append,List.append_nil]
   rw[e1_51_96 hf1,if_pos ib,own_nat (by omega)]
  ·rw[own_ne (by omega)];exact s6
 rw[e1_51_0 hf1,t12,a14,if_neg (own_nneg (by omega)),if_pos jl,if_neg (by decide)]
 rcases am with⟨b6,b27⟩ | ⟨b6,b27,b29⟩ | ⟨m,hm,b6,b27,b28,b19⟩
 ·have b6':T 0 6=Int32.ofNat (L+0):=b6
  rw[if_pos b27,e1_51_34 hf1,a14,if_neg (by decide)]
  by_cases z:T 28 0=0
  ·obtain⟨S1,e1,F,s6,cc⟩:=fin T 0 10 0 (Or.inr rfl) (by omega) b6' f0 fc ak fun j hj=>absurd hj (Nat.not_lt_zero _)
   refine⟨_,L+0+1,?_,F,by omega,?_,cc⟩
   ·rw[if_pos z,e1];simp only[Option.bind_some,Option.toList_some,Option.toList_none,List.cons_append,List.nil_append,List.append_nil]
    rw[e1_51_71 hf1,if_pos ib,own_nat (by omega)]
   ·rw[own_ne (by omega)];exact s6
  ·obtain⟨S1,e1,F,s6,cc⟩:=fin T 0 10 1 (Or.inr rfl) (by omega) b6' f0 fc ak fun j hj=>absurd hj (Nat.not_lt_zero _)
   refine⟨_,L+0+1,?_,F,by omega,?_,cc⟩
   ·rw[if_neg z,e1];simp only[Option.bind_some,Option.toList_some,Option.toList_none,List.cons_append,List.nil_append,List.append_nil]
    rw[e1_51_71 hf1,if_pos ib,own_nat (by omega)]
   ·rw[own_ne (by omega)];exact s6
 ·obtain⟨S1,e1,q0,qc,qk,q6,q19,q20,q27,q28,q27',q28'⟩:=own_maE hf1 (show 0<T 0 0 by rw[f0 0 (by decide) (by decide) (by decide) (by decide)];exact h0') b27 b29 (L:=L) (by omega) b6 (-1)
  rw[if_neg (by rw[b27];decide),e1];simp only[Option.bind_some,Option.toList_some,Option.toList_none,List.cons_append,List.nil_append,List.append_nil]
  exact reg S1 1 (by omega) q6 (fun i a b c d=>(q0 i a).trans (f0 i a b c d)) (fun c a b d i=>(qc c a (by omega) i).trans (fc c a b d i)) (fun c a b i hi=>(qk c a b i hi).trans (ak c a b i hi)) fun k hk=>by
   have:k=0:=by omega
   subst this
   exact Or.inl q19
 ·have m3:=own_ma3 hf1 b27 (-1)
  rw[b28,show (0:Int32)&&&7=0 from rfl] at m3
  rw[if_neg (by rw[b27];decide),m3];simp only[Option.bind_some,Option.toList_some,Option.toList_none,List.cons_append,List.nil_append,List.append_nil]
  exact reg T m hm b6 f0 fc ak b19
theorem own_nsG(hf1:Fx f1){S:MS}{j d:Nat}(hj:j<32)(hd:d<40)(h4:S 0 4=Int32.ofNat j)(h13:S 0 13=Int32.ofNat d)(k:Int32){pa pr:Option Nat}(h25:S 25 d=own_on pa)(h26:S 26 d=own_on pr)(hpa:∀p,pa=some p→p<j)(hpr:∀p,pr=some p→p<j):∃S',f1 (26,0,[.ref 0,.int k],[],S)=some (some (.int (Int32.ofNat j)),S')∧(∀i,i≠4→i≠12→S' 0 i=S 0 i)∧S' 0 4=Int32.ofNat (j+1)∧S' 0 12=Int32.ofNat j∧(∀c,c≠0→∀i,(c<3∨14<c∨i≠j)→c≠7→c≠8→¬(c=26∧i=d)→S' c i=S c i)∧S' 3 j=k∧S' 5 j=own_on pa∧S' 6 j=own_on pr∧S' 9 j=S 0 6∧S' 12 j=0∧S' 26 d=Int32.ofNat j∧(∀i,S' 7 i=if pr=some i then Int32.ofNat j else if i=j then -1 else S 7 i)∧∀i,S' 8 i=if pr=none∧pa=some i then Int32.ofNat j else if i=j then -1 else S 8 i:=by
 have ib:inb (Int32.ofNat j) 32=true:=own_inb (by omega) hj
 have idd:inb (Int32.ofNat d) 40=true:=own_inb (by omega) hd
 rw[e1_26_0 hf1,h4,h13,if_neg (own_nneg (by omega)),if_pos (show Int32.ofNat j<32 from (own_lt (a:=j) (b:=32) (by omega) (by decide)).mpr hj),if_neg (own_nneg (by omega)),if_pos (show Int32.ofNat d<40 from (own_lt (a:=d) (b:=40) (by omega) (by decide)).mpr hd),own_add1,e1_26_51 hf1,if_pos ib,e1_26_86 hf1,if_pos ib,e1_26_125 hf1,own_nat (by omega)]
 generalize hU:Jvm.OM.upd (Jvm.OM.upd (Jvm.OM.upd (Jvm.OM.upd (Jvm.OM.upd (Jvm.OM.upd (Jvm.OM.upd (Jvm.OM.upd (Jvm.OM.upd (Jvm.OM.upd (Jvm.OM.upd S 0 4 (Int32.ofNat (j+1))) 3 j k) 4 j 0) 8 j (-1)) 7 j (-1)) 12 j 0) 10 j (-1)) 11 j (-2)) 13 j 1) 14 j 0) 9 j _=U
 have u0:∀i,i≠4→U 0 i=S 0 i:=fun i hi=>by
  rw[←hU]
  rw[own_ne (by omega),own_ne (by omega),own_ne (by omega),own_ne (by omega),own_ne (by omega),own_ne (by omega),own_ne (by omega),own_ne (by omega),own_ne (by omega),own_ne (by omega),own_ne (by omega)]
 have u4:U 0 4=Int32.ofNat (j+1):=by rw[←hU];rfl
 have uc:∀c,c≠0→∀i,(i≠j∨c=1∨c=2∨c=5∨c=6∨14<c)→U c i=S c i:=fun c h0 i h=>by
  rw[←hU]
  rw[own_ne (by omega),own_ne (by omega),own_ne (by omega),own_ne (by omega),own_ne (by omega),own_ne (by omega),own_ne (by omega),own_ne (by omega),own_ne (by omega),own_ne (by omega),own_ne (by omega)]
 have u3:U 3 j=k:=by
  rw[←hU]
  rw[own_ne (by omega),own_ne (by omega),own_ne (by omega),own_ne (by omega),own_ne (by omega),own_ne (by omega),own_ne (by omega),own_ne (by omega),own_ne (by omega),own_up,if_pos ⟨rfl,rfl⟩]
 have u7:U 7 j = -1:=by
  rw[←hU]
  rw[own_ne (by omega),own_ne (by omega),own_ne (by omega),own_ne (by omega),own_ne (by omega),own_ne (by omega),own_up,if_pos ⟨rfl,rfl⟩]
 have u8:U 8 j = -1:=by
  rw[←hU]
  rw[own_ne (by omega),own_ne (by omega),own_ne (by omega),own_ne (by omega),own_ne (by omega),own_ne (by omega),own_ne (by omega),own_up,if_pos ⟨rfl,rfl⟩]
 have u12:U 12 j=0:=by
  rw[←hU]
  rw[own_ne (by omega),own_ne (by omega),own_ne (by omega),own_ne (by omega),own_ne (by omega),own_up,if_pos ⟨rfl,rfl⟩]
 have u9:U 9 j=S 0 6:=by
  rw[←hU,own_up,if_pos ⟨rfl,rfl⟩]
  rfl
 clear hU
 have nn:∀x:Option Nat,(∀p,x=some p→p<j)→(x=none∧own_on x<0)∨∃p,x=some p∧p<j∧own_on x=Int32.ofNat p:=fun x hx=>by
  cases x with
  |none=>exact Or.inl ⟨rfl,by decide⟩
  |some p=>exact Or.inr ⟨p,rfl,hx p rfl,rfl⟩
 have fin:∀V:MS,(∀c,c≠5→c≠6→c≠7→c≠8→∀i,V c i=U c i)→V 5 j=own_on pa→V 6 j=own_on pr→(∀i,i≠j→V 5 i=U 5 i∧V 6 i=U 6 i)→(∀i,V 7 i=if pr=some i then Int32.ofNat j else if i=j then -1 else S 7 i)→(∀i,V 8 i=if pr=none∧pa=some i then Int32.ofNat j else if i=j then -1 else S 8 i)→∃S',f1 (26,201,[.ref 0,.int k,.int (Int32.ofNat j),.int (own_on pa),.int (own_on pr)],[],V)=some (some (.int (Int32.ofNat j)),S')∧(∀i,i≠4→i≠12→S' 0 i=S 0 i)∧S' 0 4=Int32.ofNat (j+1)∧S' 0 12=Int32.ofNat j∧(∀c,c≠0→∀i,(c<3∨14<c∨i≠j)→c≠7→c≠8→¬(c=26∧i=d)→S' c i=S c i)∧S' 3 j=k∧S' 5 j=own_on pa∧S' 6 j=own_on pr∧S' 9 j=S 0 6∧S' 12 j=0∧S' 26 d=Int32.ofNat j∧(∀i,S' 7 i=if pr=some i then Int32.ofNat j else if i=j then -1 else S 7 i)∧∀i,S' 8 i=if pr=none∧pa=some i then Int32.ofNat j else if i=j then -1 else S 8 i:=fun V hV v5 v6 v56 v7 v8=>by
  have v0:∀i,V 0 i=U 0 i:=hV 0 (by decide) (by decide) (by decide) (by decide)
  rw[e1_26_201 hf1,v0,u0 13 (by decide),h13,if_pos idd,own_nat (by omega)]
  refine⟨_,rfl,fun i a b=>?_,?_,rfl,fun c a i b h7 h8 e=>?_,?_,?_,?_,?_,?_,?_,fun i=>?_,fun i=>?_⟩
  ·rw[own_ne (by omega),own_ne (by omega),v0];exact u0 i a
  ·rw[own_ne (by omega),own_ne (by omega),v0];exact u4
  ·rw[own_ne (by omega),own_ne e]
   by_cases z5:c=5
   ·subst z5;rw[(v56 i (by omega)).1];exact uc 5 (by decide) i (by omega)
   by_cases z6:c=6
   ·subst z6;rw[(v56 i (by omega)).2];exact uc 6 (by decide) i (by omega)
   rw[hV c z5 z6 h7 h8];exact uc c a i (by omega)
  ·rw[own_ne (by omega),own_ne (by omega),hV 3 (by decide) (by decide) (by decide) (by decide)];exact u3
  ·rw[own_ne (by omega),own_ne (by omega)];exact v5
  ·rw[own_ne (by omega),own_ne (by omega)];exact v6
  ·rw[own_ne (by omega),own_ne (by omega),hV 9 (by decide) (by decide) (by decide) (by decide)];exact u9
  ·rw[own_ne (by omega),own_ne (by omega),hV 12 (by decide) (by decide) (by decide) (by decide)];exact u12
  ·rw[own_ne (by omega),own_up,if_pos ⟨rfl,rfl⟩]
  ·rw[own_ne (by omega),own_ne (by omega)];exact v7 i
  ·rw[own_ne (by omega),own_ne (by omega)];exact v8 i
 have U7:∀i,U 7 i=if i=j then -1 else S 7 i:=fun i=>by
  by_cases z:i=j
  ·rw[if_pos z,z];exact u7
  ·rw[if_neg z];exact uc 7 (by decide) i (Or.inl z)
 have U8:∀i,U 8 i=if i=j then -1 else S 8 i:=fun i=>by
  by_cases z:i=j
  ·rw[if_pos z,z];exact u8
  ·rw[if_neg z];exact uc 8 (by decide) i (Or.inl z)
 rw[u0 13 (by decide),h13,if_pos idd,own_nat (by omega),uc 25 (by decide) d (by omega),uc 26 (by decide) d (by omega),h25,h26,e1_26_146 hf1,if_pos ib,own_nat (by omega)]
 rcases nn pr hpr with⟨e,l⟩ | ⟨q,e,l,eo⟩
 ·rw[if_pos l,e1_26_184 hf1]
  rcases nn pa hpa with⟨e',l'⟩ | ⟨q,e',l',eo⟩
  ·rw[if_pos l']
   refine fin _ (fun c h5 h6 h7 h8 i=>by rw[own_ne (by omega),own_ne (by omega)]) (by rw[own_ne (by omega),own_up,if_pos ⟨rfl,rfl⟩]) (by rw[own_up,if_pos ⟨rfl,rfl⟩]) (fun i hi=>⟨by rw[own_ne (by omega),own_ne (by omega)],by rw[own_ne (by omega),own_ne (by omega)]⟩) (fun i=>?_) fun i=>?_
   ·rw[own_ne (by omega),own_ne (by omega),if_neg (by rw[e];simp)];exact U7 i
   ·rw[own_ne (by omega),own_ne (by omega),if_neg (by rw[e'];simp)];exact U8 i
  ·rw[if_neg (by rw[eo];exact own_nneg (by omega)),if_pos (by rw[eo];exact (own_lt (a:=q) (b:=32) (by omega) (by decide)).mpr (by omega)),if_pos (by rw[eo];exact own_inb (by omega) (by omega)),show (own_on pa).toNatClampNeg=q by rw[eo];exact own_nat (by omega)]
   refine fin _ (fun c h5 h6 h7 h8 i=>by rw[own_ne (by omega),own_ne (by omega),own_ne (by omega)]) (by rw[own_ne (by omega),own_ne (by omega),own_up,if_pos ⟨rfl,rfl⟩]) (by rw[own_ne (by omega),own_up,if_pos ⟨rfl,rfl⟩]) (fun i hi=>⟨by rw[own_ne (by omega),own_ne (by omega),own_ne (by omega)],by rw[own_ne (by omega),own_ne (by omega),own_ne (by omega)]⟩) (fun i=>?_) fun i=>?_
   ·rw[own_ne (by omega),own_ne (by omega),own_ne (by omega),if_neg (by rw[e];simp)];exact U7 i
   ·by_cases z:i=q
    ·subst z;rw[own_up,if_pos ⟨rfl,rfl⟩,if_pos ⟨e,e'⟩]
    ·rw[own_ne (by omega),own_ne (by omega),own_ne (by omega),if_neg (by rw[e'];rintro ⟨-,h⟩;exact z (Option.some.inj h).symm)];exact U8 i
 ·rw[if_neg (by rw[eo];exact own_nneg (by omega)),if_pos (by rw[eo];exact (own_lt (a:=q) (b:=32) (by omega) (by decide)).mpr (by omega)),if_pos (by rw[eo];exact own_inb (by omega) (by omega)),show (own_on pr).toNatClampNeg=q by rw[eo];exact own_nat (by omega)]
  refine fin _ (fun c h5 h6 h7 h8 i=>by rw[own_ne (by omega),own_ne (by omega),own_ne (by omega)]) (by rw[own_ne (by omega),own_ne (by omega),own_up,if_pos ⟨rfl,rfl⟩]) (by rw[own_ne (by omega),own_up,if_pos ⟨rfl,rfl⟩]) (fun i hi=>⟨by rw[own_ne (by omega),own_ne (by omega),own_ne (by omega)],by rw[own_ne (by omega),own_ne (by omega),own_ne (by omega)]⟩) (fun i=>?_) fun i=>?_
  ·by_cases z:i=q
   ·subst z;rw[own_up,if_pos ⟨rfl,rfl⟩,if_pos e]
   ·rw[own_ne (by omega),own_ne (by omega),own_ne (by omega),if_neg (by rw[e];intro h;exact z (Option.some.inj h).symm)];exact U7 i
  ·rw[own_ne (by omega),own_ne (by omega),own_ne (by omega),if_neg (by rw[e];simp)];exact U8 i
end B2
def own_gn(g:Nat→Nat→Option Nat)(j d:Nat):Nat→Nat→Option Nat:=fun c i=>
 if c=5 then if i=j then g 25 d else g 5 i else if c=6 then if i=j then g 26 d else g 6 i else if c=7 then if g 26 d=some i then some j else if i=j then none else g 7 i else if c=8 then if g 26 d=none∧g 25 d=some i then some j else if i=j then none else g 8 i else if c=26 then if i=d then some j else g 26 i else g c i
def own_go2(g:Nat→Nat→Option Nat)(j d:Nat):Nat→Nat→Option Nat:=fun c i=>if c=25 then if i=d+1 then some j else g 25 i else if c=26 then if i=d+1 then none else g 26 i else g c i
def own_Tr(j d:Nat)(K:Nat→Int32)(g:Nat→Nat→Option Nat):Prop:=
 g 25 0=none∧(∀e,e<d→∃o,g 25 (e+1)=some o∧o<j∧K o≠2∧g 5 o=g 25 e)∧(∀e e' o o',e'<e→e≤d→g 25 e=some o→g 25 e'=some o'→o'<o)∧(∀e,e≤d→∀l,g 26 e=some l→l<j∧g 5 l=g 25 e∧g 7 l=none) ∧
 ∀s,s<j→(∀p,g 5 s=some p→p<s∧K p≠2)∧(∀q,g 6 s=some q→q<s∧g 5 q=g 5 s∧g 7 q=some s)∧(∀t,g 7 s=some t→t<j∧g 6 t=some s)∧(∀t,g 8 s=some t→t<j∧g 5 t=some s∧g 6 t=none)∧(g 5 s=none→g 7 s=none→g 26 0=some s)
theorem own_T25{j d:Nat}{K:Nat→Int32}{g:Nat→Nat→Option Nat}(T:own_Tr j d K g){e o:Nat}(he:e≤d)(h:g 25 e=some o):o<j∧K o≠2:=by
 cases e with
 |zero=>rw[T.1] at h;exact absurd h (by simp)
 |succ e=>
  obtain⟨o',h1,h2,h3,-⟩:=T.2.1 e (by omega)
  rw[h1] at h
  rw[←Option.some.inj h];exact⟨h2,h3⟩
theorem own_TrN{j d:Nat}{K K':Nat→Int32}{g:Nat→Nat→Option Nat}(T:own_Tr j d K g)(hK:∀s,s<j→K' s=K s):own_Tr (j+1) d K' (own_gn g j d):=by
 have T0:=T
 obtain⟨t1,t2,t3,t4,t5⟩:=T
 have g5:∀i,own_gn g j d 5 i=if i=j then g 25 d else g 5 i:=fun i=>rfl
 have g6:∀i,own_gn g j d 6 i=if i=j then g 26 d else g 6 i:=fun i=>rfl
 have g7:∀i,own_gn g j d 7 i=if g 26 d=some i then some j else if i=j then none else g 7 i:=fun i=>rfl
 have g8:∀i,own_gn g j d 8 i=if g 26 d=none∧g 25 d=some i then some j else if i=j then none else g 8 i:=fun i=>rfl
 have g25:∀i,own_gn g j d 25 i=g 25 i:=fun i=>rfl
 have g26:∀i,own_gn g j d 26 i=if i=d then some j else g 26 i:=fun i=>rfl
 have nj:∀e,e≤d→g 26 e≠some j:=fun e he h=>by have:=(t4 e he j h).1;omega
 have nj5:g 25 d≠some j:=fun h=>by have:=(own_T25 T0 (Nat.le_refl d) h).1;omega
 refine⟨t1,fun e he=>?_,t3,fun e he l hl=>?_,fun s hs=>?_⟩
 ·obtain⟨o,h1,h2,h3,h4⟩:=t2 e he
  exact⟨o,h1,by omega,by rw[hK o h2];exact h3,by rw[g5,if_neg (by omega)];exact h4⟩
 ·rw[g26] at hl
  by_cases z:e=d
  ·rw[if_pos z] at hl
   have ej:=Option.some.inj hl
   subst ej
   exact⟨by omega,by rw[g5,if_pos rfl,g25,z],by rw[g7,if_neg (nj d (Nat.le_refl d)),if_pos rfl]⟩
  ·rw[if_neg z] at hl
   obtain⟨h1,h2,h3⟩:=t4 e he l hl
   refine⟨by omega,by rw[g5,if_neg (by omega),g25];exact h2,?_⟩
   rw[g7,if_neg (fun h=>?_),if_neg (by omega)]
   ·exact h3
   ·have h5:=(t4 d (Nat.le_refl d) l h).2.1
    rw[h2] at h5
    cases d with
    |zero=>omega
    |succ d=>
     obtain⟨o,o1,-⟩:=t2 d (by omega)
     exact absurd (t3 (d+1) e o o (by omega) (Nat.le_refl _) o1 (by rw[h5];exact o1)) (Nat.lt_irrefl _)
 ·by_cases z:s=j
  ·subst z
   refine⟨fun p hp=>?_,fun q hq=>?_,fun t ht=>?_,fun t ht=>?_,fun h5 h7=>?_⟩
   ·rw[g5,if_pos rfl] at hp
    obtain⟨h1,h2⟩:=own_T25 T0 (Nat.le_refl d) hp
    exact⟨h1,by rw[hK p h1];exact h2⟩
   ·rw[g6,if_pos rfl] at hq
    obtain⟨h1,h2,h3⟩:=t4 d (Nat.le_refl d) q hq
    exact⟨h1,by rw[g5,if_neg (by omega),g5,if_pos rfl];exact h2,by rw[g7,if_pos hq]⟩
   ·rw[g7,if_neg (nj d (Nat.le_refl d)),if_pos rfl] at ht
    exact absurd ht (by simp)
   ·rw[g8,if_neg (fun h=>nj5 h.2),if_pos rfl] at ht
    exact absurd ht (by simp)
   ·rw[g5,if_pos rfl] at h5
    cases d with
    |zero=>rw[g26,if_pos rfl]
    |succ d=>
     obtain⟨o,o1,-⟩:=t2 d (by omega)
     rw[o1] at h5;exact absurd h5 (by simp)
  ·have hs':s<j:=by omega
   obtain⟨u1,u2,u3,u4,u5⟩:=t5 s hs'
   refine⟨fun p hp=>?_,fun q hq=>?_,fun t ht=>?_,fun t ht=>?_,fun h5 h7=>?_⟩
   ·rw[g5,if_neg z] at hp
    obtain⟨h1,h2⟩:=u1 p hp
    exact⟨h1,by rw[hK p (by omega)];exact h2⟩
   ·rw[g6,if_neg z] at hq
    obtain⟨h1,h2,h3⟩:=u2 q hq
    refine⟨h1,by rw[g5,if_neg (by omega),g5,if_neg z];exact h2,?_⟩
    rw[g7,if_neg (fun h=>by rw[(t4 d (Nat.le_refl d) q h).2.2] at h3;exact absurd h3 (by simp)),if_neg (by omega)]
    exact h3
   ·rw[g7] at ht
    by_cases q:g 26 d=some s
    ·rw[if_pos q] at ht
     rw[←Option.some.inj ht]
     exact⟨by omega,by rw[g6,if_pos rfl];exact q⟩
    ·rw[if_neg q,if_neg z] at ht
     obtain⟨h1,h2⟩:=u3 t ht
     exact⟨by omega,by rw[g6,if_neg (by omega)];exact h2⟩
   ·rw[g8] at ht
    by_cases q:g 26 d=none∧g 25 d=some s
    ·rw[if_pos q] at ht
     rw[←Option.some.inj ht]
     exact⟨by omega,by rw[g5,if_pos rfl];exact q.2,by rw[g6,if_pos rfl];exact q.1⟩
    ·rw[if_neg q,if_neg z] at ht
     obtain⟨h1,h2,h3⟩:=u4 t ht
     exact⟨by omega,by rw[g5,if_neg (by omega)];exact h2,by rw[g6,if_neg (by omega)];exact h3⟩
   ·rw[g5,if_neg z] at h5
    rw[g7] at h7
    by_cases q:g 26 d=some s
    ·rw[if_pos q] at h7;exact absurd h7 (by simp)
    ·rw[if_neg q,if_neg z] at h7
     have:=u5 h5 h7
     rw[g26]
     by_cases d0:0=d
     ·rw[←d0] at q;exact absurd this q
     ·rw[if_neg d0];exact this
theorem own_TrO{j d:Nat}{K:Nat→Int32}{g:Nat→Nat→Option Nat}(T:own_Tr (j+1) d K g)(hk:K j≠2)(h5:g 5 j=g 25 d)(ho:∀e o,e≤d→g 25 e=some o→o<j):own_Tr (j+1) (d+1) K (own_go2 g j d):=by
 obtain⟨t1,t2,t3,t4,t5⟩:=T
 have g25:∀i,own_go2 g j d 25 i=if i=d+1 then some j else g 25 i:=fun i=>rfl
 have g26:∀i,own_go2 g j d 26 i=if i=d+1 then none else g 26 i:=fun i=>rfl
 have g5:∀i,own_go2 g j d 5 i=g 5 i:=fun i=>rfl
 refine⟨t1,fun e he=>?_,fun e e' o o' h1 h2 h3 h4=>?_,fun e he l hl=>?_,fun s hs=>?_⟩
 ·by_cases z:e=d
  ·subst z
   exact⟨j,by rw[g25,if_pos rfl],by omega,hk,by rw[g5,g25,if_neg (by omega)];exact h5⟩
  ·obtain⟨o,h1,h2,h3,h4⟩:=t2 e (by omega)
   exact⟨o,by rw[g25,if_neg (by omega)];exact h1,h2,h3,by rw[g5,g25,if_neg (by omega)];exact h4⟩
 ·rw[g25] at h3 h4
  rw[if_neg (by omega)] at h4
  by_cases z:e=d+1
  ·rw[if_pos z] at h3
   rw[←Option.some.inj h3];exact ho e' o' (by omega) h4
  ·rw[if_neg z] at h3;exact t3 e e' o o' h1 (by omega) h3 h4
 ·rw[g26] at hl
  by_cases z:e=d+1
  ·rw[if_pos z] at hl;exact absurd hl (by simp)
  ·rw[if_neg z] at hl
   rw[g25,if_neg z]
   exact t4 e (by omega) l hl
 ·obtain⟨u1,u2,u3,u4,u5⟩:=t5 s hs
  exact⟨u1,u2,u3,u4,fun a b=>by rw[g26,if_neg (by omega)];exact u5 a b⟩
theorem own_TrC{j d:Nat}{K:Nat→Int32}{g:Nat→Nat→Option Nat}(T:own_Tr j (d+1) K g):own_Tr j d K g:=
 ⟨T.1,fun e he=>T.2.1 e (by omega),fun e e' o o' h1 h2=>T.2.2.1 e e' o o' h1 (by omega),fun e he=>T.2.2.2.1 e (by omega),T.2.2.2.2⟩
def own_Lk(j d:Nat)(S:MS)(g:Nat→Nat→Option Nat):Prop:=(∀c,5≤c→c≤8→∀s,s<j→S c s=own_on (g c s))∧∀e,e≤d→S 25 e=own_on (g 25 e)∧S 26 e=own_on (g 26 e)
def own_SC(S:MS)(s p q:Nat)(x:Nat×Nat):Prop:=(x.1=2→S 3 s=2∧S 4 s=Int32.ofNat x.2∧x.2<8∧own_CA S s p q x.2)∧(x.1≠2→(S 3 s=16∨S 3 s=17)∧own_CC S s p q)
theorem own_SCl{S:MS}{s p q:Nat}{x:Nat×Nat}(h:own_SC S s p q x):p+1≤q∧q≤p+5:=by
 by_cases z:x.1=2
 ·obtain⟨-,-,-,m,h1,h2,-⟩:=h.1 z;omega
 ·obtain⟨-,m,h1,h2,-⟩:=h.2 z;omega
theorem own_SCe{S S':MS}{s p q:Nat}{x:Nat×Nat}(h:own_SC S s p q x)(e:∀c,(c=3∨c=4∨c=9∨c=10∨c=13∨c=14)→S' c s=S c s)(ek:∀c,19≤c→c≤21→∀i,i<q→S' c i=S c i):own_SC S' s p q x:=by
 refine⟨fun z=>?_,fun z=>?_⟩
 ·obtain⟨h3,h4,h8,m,m3,hq,h9,h10,hj,a,b,c,d⟩:=h.1 z
  refine⟨(e 3 (by omega)).trans h3,(e 4 (by omega)).trans h4,h8,m,m3,hq,(e 9 (by omega)).trans h9,(e 10 (by omega)).trans h10,fun j l=>?_,?_,?_,?_,?_⟩
  ·rw[ek 19 (by decide) (by decide) _ (by omega)];exact hj j l
  ·rw[ek 20 (by decide) (by decide) _ (by omega)];exact a
  ·rw[ek 19 (by decide) (by decide) _ (by omega)];exact b
  ·rw[e 14 (by omega),ek 21 (by decide) (by decide) _ (by omega)];exact c
  ·rw[e 13 (by omega),ek 19 (by decide) (by decide) _ (by omega)];exact d
 ·obtain⟨h3,m,m3,hq,h9,h10,hj,a⟩:=h.2 z
  refine⟨by rw[e 3 (by omega)];exact h3,m,m3,hq,(e 9 (by omega)).trans h9,(e 10 (by omega)).trans h10,fun j l=>?_,?_⟩
  ·rw[ek 19 (by decide) (by decide) _ (by omega)];exact hj j l
  ·rw[ek 19 (by decide) (by decide) _ (by omega)];exact a
def own_Co(ks:List (Nat×Nat))(P:Nat→Nat)(S:MS):Prop:=∀s,s<ks.length→own_SC S s (P s) (P (s+1)) (ks.getD s (0,0))∧S 12 s=0
theorem own_Pm2{ks:List (Nat×Nat)}{P:Nat→Nat}{S:MS}(h:∀s,s<ks.length→own_SC S s (P s) (P (s+1)) (ks.getD s (0,0))):∀ {a b:Nat},a≤b→b≤ks.length→P a≤P b
 |a,0,h1,h2=>by
  have:a=0:=by omega
  subst this
  exact Nat.le_refl _
 |a,b+1,h1,h2=>by
  by_cases q:a=b+1
  ·subst q;exact Nat.le_refl _
  ·have:=own_Pm2 h (a:=a) (b:=b) (by omega) (by omega)
   have:=(own_SCl (h b (by omega))).1
   omega
def own_PB(ks:List (Nat×Nat))(d:Nat)(S:MS):Prop:=(1<S 0 0∧S 0 11=0∧S 0 13=Int32.ofNat d∧S 0 4=Int32.ofNat ks.length)∧(∃g,own_Tr ks.length d (S 3) g∧own_Lk ks.length d S g)∧∃P:Nat→Nat,S 0 6=Int32.ofNat (P ks.length)∧P ks.length≤5*ks.length∧own_Co ks P S
def own_PM(ks:List (Nat×Nat))(d:Nat)(S:MS):Prop:=(1<S 0 0∧S 0 13=Int32.ofNat d∧S 0 4=Int32.ofNat (ks.length+1)∧S 0 12=Int32.ofNat ks.length)∧(∃g,own_Tr (ks.length+1) d (S 3) g∧own_Lk (ks.length+1) d S g∧g 5 ks.length=g 25 d∧∀e o,e≤d→g 25 e=some o→o<ks.length)∧∃P:Nat→Nat,S 0 6=Int32.ofNat (P ks.length)∧P ks.length≤5*ks.length∧own_Co ks P S∧S 9 ks.length=Int32.ofNat (P ks.length)∧S 12 ks.length=0
theorem own_TrK{j d:Nat}{K K':Nat→Int32}{g:Nat→Nat→Option Nat}(T:own_Tr j d K g)(h:∀s,K' s=K s):own_Tr j d K' g:=by
 have:K'=K:=funext h
 rw[this];exact T
theorem own_PME{ks:List (Nat×Nat)}{d:Nat}{S S':MS}(M:own_PM ks d S)(E:own_Ex S S'):own_PM ks d S':=by
 obtain⟨⟨m0,m13,m4,m12⟩,⟨g,T,⟨l1,l2⟩,g5,go⟩,P,p6,pl,co,p9,p12⟩:=M
 have k:∀c,c≠0→c<27→∀i,S' c i=S c i:=E.2
 have z:∀i,i≠11→i≠14→i≠15→i≠16→S' 0 i=S 0 i:=E.1
 refine⟨⟨?_,?_,?_,?_⟩,⟨g,own_TrK T (k 3 (by decide) (by decide)),⟨fun c a b s hs=>?_,fun e he=>⟨?_,?_⟩⟩,g5,go⟩,P,?_,pl,fun s hs=>⟨own_SCe (co s hs).1 (fun c hc=>k c (by omega) (by omega) s) fun c a b i _=>k c (by omega) (by omega) i,?_⟩,?_,?_⟩
 ·rw[z 0 (by decide) (by decide) (by decide) (by decide)];exact m0
 ·rw[z 13 (by decide) (by decide) (by decide) (by decide)];exact m13
 ·rw[z 4 (by decide) (by decide) (by decide) (by decide)];exact m4
 ·rw[z 12 (by decide) (by decide) (by decide) (by decide)];exact m12
 ·rw[k c (by omega) (by omega)];exact l1 c a b s hs
 ·rw[k 25 (by omega) (by omega)];exact (l2 e he).1
 ·rw[k 26 (by omega) (by omega)];exact (l2 e he).2
 ·rw[z 6 (by decide) (by decide) (by decide) (by decide)];exact p6
 ·rw[k 12 (by omega) (by omega)];exact (co s hs).2
 ·rw[k 9 (by omega) (by omega)];exact p9
 ·rw[k 12 (by omega) (by omega)];exact p12
theorem own_PMF{ks:List (Nat×Nat)}{d:Nat}{S S':MS}(M:own_PM ks d S){P:Nat→Nat}(hP:S 0 6=Int32.ofNat (P ks.length)∧P ks.length≤5*ks.length∧own_Co ks P S∧S 9 ks.length=Int32.ofNat (P ks.length)∧S 12 ks.length=0)(F:own_FA ks.length (P ks.length) S S'){q:Nat}{x:Nat×Nat}(hq:S' 0 6=Int32.ofNat q)(sc:own_SC S' ks.length (P ks.length) q x):own_PB (ks++[x]) d (Jvm.OM.upd S' 0 11 0)∧own_Tk S (Jvm.OM.upd S' 0 11 0):=by
 obtain⟨⟨m0,m13,m4,m12⟩,⟨g,T,⟨l1,l2⟩,g5,go⟩,-⟩:=M
 obtain⟨p6,pl,co,p9,p12⟩:=hP
 obtain⟨f0,fc,fj,fk⟩:=F
 have len:(ks++[x]).length=ks.length+1:=by simp
 have z:∀i,i≠6→i≠11→i≠14→i≠15→Jvm.OM.upd S' 0 11 0 0 i=S 0 i:=fun i a b c e=>(own_ne (by omega)).trans (f0 i a b c e)
 have k:∀c,c≠0→c<27→c≠10→c≠13→c≠14→(c<19∨22<c)→∀i,Jvm.OM.upd S' 0 11 0 c i=S c i:=fun c a b e f h l i=>(own_ne (by omega)).trans (fc c a b e f h l i)
 have sl:=own_SCl sc
 refine⟨⟨⟨?_,rfl,?_,?_⟩,⟨g,?_,fun c a b s hs=>?_,fun e he=>⟨?_,?_⟩⟩,fun s=>if s≤ks.length then P s else q,?_,?_,fun s hs=>?_⟩,?_,?_,?_,fun i=>?_,fun i=>?_⟩
 ·rw[z 0 (by decide) (by decide) (by decide) (by decide)];exact m0
 ·rw[z 13 (by decide) (by decide) (by decide) (by decide)];exact m13
 ·rw[z 4 (by decide) (by decide) (by decide) (by decide),len];exact m4
 ·rw[len];exact own_TrK T (k 3 (by decide) (by decide) (by decide) (by decide) (by decide) (by decide))
 ·rw[k c (by omega) (by omega) (by omega) (by omega) (by omega) (by omega)];exact l1 c a b s (by omega)
 ·rw[k 25 (by omega) (by omega) (by omega) (by omega) (by omega) (by omega)];exact (l2 e he).1
 ·rw[k 26 (by omega) (by omega) (by omega) (by omega) (by omega) (by omega)];exact (l2 e he).2
 ·rw[len]
  show S' 0 6=Int32.ofNat (if ks.length+1≤ks.length then _ else q)
  rw[if_neg (by omega)];exact hq
 ·rw[len]
  show (if ks.length+1≤ks.length then _ else q)≤_
  rw[if_neg (by omega)];omega
 ·rw[len] at hs
  show own_SC _ s (if s≤ks.length then P s else q) (if s+1≤ks.length then P (s+1) else q) _∧_
  by_cases e:s=ks.length
  ·subst e
   rw[if_pos (Nat.le_refl _),if_neg (by omega),List.getD_eq_getElem?_getD,List.getElem?_append_right (Nat.le_refl _),Nat.sub_self]
   refine⟨own_SCe (x:=x) sc (fun c hc=>own_ne (by omega)) fun c a b i _=>own_ne (by omega),?_⟩
   rw[k 12 (by decide) (by decide) (by decide) (by decide) (by decide) (by decide)];exact p12
  ·have hs':s<ks.length:=by omega
   rw[if_pos (by omega),if_pos (by omega),List.getD_eq_getElem?_getD,List.getElem?_append_left hs',←List.getD_eq_getElem?_getD]
   refine⟨own_SCe (co s hs').1 (fun c hc=>?_) fun c a b i hi=>?_,?_⟩
   ·rw[own_ne (by omega)]
    by_cases w:c=10∨c=13∨c=14
    ·exact fj c w s (by omega)
    ·exact fc c (by omega) (by omega) (by omega) (by omega) (by omega) (by omega) s
   ·rw[own_ne (by omega)]
    have:=own_Pm2 (fun s hs=>(co s hs).1) (a:=s+1) (b:=ks.length) (by omega) (Nat.le_refl _)
    exact fk c a (by omega) i (by omega)
   ·rw[k 12 (by decide) (by decide) (by decide) (by decide) (by decide) (by decide)];exact (co s hs').2
 ·exact z 3 (by decide) (by decide) (by decide) (by decide)
 ·exact z 0 (by decide) (by decide) (by decide) (by decide)
 ·exact z 1 (by decide) (by decide) (by decide) (by decide)
 ·exact k 1 (by decide) (by decide) (by decide) (by decide) (by decide) (by decide) i
 ·exact k 2 (by decide) (by decide) (by decide) (by decide) (by decide) (by decide) i
def own_im(x:Nat×Nat×List (Int32×Int32)):Prop:=(x=(0,0,[(15,0)]))∨(∃kw u cmp k,x=(1,0,(kw,0)::[(2,u),(cmp,0),(1,k)]++[(14,0)])∧(kw=16∨kw=17)∧(cmp=10∨cmp=11))∨(∃v r,x=(2,v,(2,Int32.ofNat v)::(3,0)::r++[(4,0)])∧v<8∧own_rhs r)
def own_vl:Nat→List (Nat×Nat×List (Int32×Int32))→Nat→Prop
 |d,[],d'=>d=d'
 |d,x::xs,d'=>own_im x∧(x.1=0→1≤d∧own_vl (d-1) xs d')∧(x.1=1→d≤2∧own_vl (d+1) xs d')∧(x.1=2→own_vl d xs d')
def own_st(xs:List (Nat×Nat×List (Int32×Int32))):List (Nat×Nat):=xs.flatMap fun x=>if x.1=0 then [] else [(x.1,x.2.1)]
section C2
variable {f1:FT1}
theorem own_nsP(hf1:Fx f1){ks:List (Nat×Nat)}{d:Nat}{S:MS}(hk:ks.length<32)(hd:d<40)(B:own_PB ks d S)(k:Int32):∃S',f1 (26,0,[.ref 0,.int k],[],S)=some (some (.int (Int32.ofNat ks.length)),S')∧own_PM ks d S'∧own_Tk S S'∧S' 3 ks.length=k:=by
 obtain⟨⟨b0,b11,b13,b4⟩,⟨g,T,l1,l2⟩,P,p6,pl,co⟩:=B
 obtain⟨S',e,s0,s4,s12,sc,s3,s5,s6,s9,s12',s26,s7,s8⟩:=own_nsG hf1 hk hd b4 b13 k (l2 d (Nat.le_refl d)).1 (l2 d (Nat.le_refl d)).2 (fun p hp=>(own_T25 T (Nat.le_refl d) hp).1) (fun p hp=>(T.2.2.2.1 d (Nat.le_refl d) p hp).1)
 refine⟨S',e,⟨⟨?_,?_,s4,s12⟩,⟨own_gn g ks.length d,own_TrN T (fun s hs=>?_),⟨fun c a b s hs=>?_,fun e he=>⟨?_,?_⟩⟩,?_,fun e o he ho=>(own_T25 T he ho).1⟩,P,?_,pl,fun s hs=>⟨own_SCe (co s hs).1 (fun c hc=>sc c (by omega) s (by omega) (by omega) (by omega) (by omega)) fun c a b i _=>sc c (by omega) i (by omega) (by omega) (by omega) (by omega),?_⟩,?_,s12'⟩,⟨s0 3 (by decide) (by decide),s0 0 (by decide) (by decide),s0 1 (by decide) (by decide),fun i=>sc 1 (by decide) i (by omega) (by omega) (by omega) (by omega),fun i=>sc 2 (by decide) i (by omega) (by omega) (by omega) (by omega)⟩,s3⟩
 ·rw[s0 0 (by decide) (by decide)];exact b0
 ·rw[s0 13 (by decide) (by decide)];exact b13
 ·exact sc 3 (by decide) s (by omega) (by omega) (by omega) (by omega)
 ·have:c=5∨c=6∨c=7∨c=8:=by omega
  rcases this with rfl | rfl | rfl | rfl
  ·show S' 5 s=own_on (if s=ks.length then g 25 d else g 5 s)
   by_cases z:s=ks.length
   ·rw[if_pos z,z];exact s5
   ·rw[if_neg z,sc 5 (by decide) s (by omega) (by omega) (by omega) (by omega)];exact l1 5 (by decide) (by decide) s (by omega)
  ·show S' 6 s=own_on (if s=ks.length then g 26 d else g 6 s)
   by_cases z:s=ks.length
   ·rw[if_pos z,z];exact s6
   ·rw[if_neg z,sc 6 (by decide) s (by omega) (by omega) (by omega) (by omega)];exact l1 6 (by decide) (by decide) s (by omega)
  ·rw[s7]
   show _=own_on (if g 26 d=some s then some ks.length else if s=ks.length then none else g 7 s)
   by_cases q:g 26 d=some s
   ·rw[if_pos q,if_pos q];rfl
   ·rw[if_neg q,if_neg q]
    by_cases z:s=ks.length
    ·rw[if_pos z,if_pos z];rfl
    ·rw[if_neg z,if_neg z];exact l1 7 (by decide) (by decide) s (by omega)
  ·rw[s8]
   show _=own_on (if g 26 d=none∧g 25 d=some s then some ks.length else if s=ks.length then none else g 8 s)
   by_cases q:g 26 d=none∧g 25 d=some s
   ·rw[if_pos q,if_pos q];rfl
   ·rw[if_neg q,if_neg q]
    by_cases z:s=ks.length
    ·rw[if_pos z,if_pos z];rfl
    ·rw[if_neg z,if_neg z];exact l1 8 (by decide) (by decide) s (by omega)
 ·rw[sc 25 (by decide) e (by omega) (by omega) (by omega) (by omega)];exact (l2 e he).1
 ·show S' 26 e=own_on (if e=d then some ks.length else g 26 e)
  by_cases z:e=d
  ·rw[if_pos z,z];exact s26
  ·rw[if_neg z,sc 26 (by decide) e (by omega) (by omega) (by omega) (by omega)];exact (l2 e he).2
 ·show (if ks.length=ks.length then g 25 d else _)=g 25 d
  rw[if_pos rfl]
 ·rw[s0 6 (by decide) (by decide)];exact p6
 ·rw[sc 12 (by decide) s (by omega) (by omega) (by omega) (by omega)];exact (co s hs).2
 ·rw[s9];exact p6
theorem own_fdS(hf1:Fx f1){ks:List (Nat×Nat)}{d v:Nat}{S:MS}(hk:ks.length<32)(M:own_PM ks d S)(R:own_Rd S)(h3:S 3 ks.length=2)(h4:S 4 ks.length=Int32.ofNat v)(hv:v<8):∃S',f1 (24,0,[.ref 0,.int 4,.int 0],[],S)=some (some (.int 1),S')∧own_Tk S S'∧own_PB (ks++[(2,v)]) d S':=by
 have M0:=M
 obtain⟨⟨m0,m13,m4,m12⟩,-,P,hP⟩:=M
 have L9:P ks.length<900:=by have:=hP.2.1;omega
 obtain⟨T,e1,A⟩:=own_rd2 hf1 m0 R (L:=P ks.length) (by omega) hP.1
 obtain⟨S',q,e2,F,hq,q6,ca⟩:=own_faG hf1 hk L9 m0 m12 h4 hP.2.2.2.1 A
 obtain⟨B,K⟩:=own_PMF M0 hP F (x:=(2,v)) q6 ⟨fun _=>⟨by rw[F.2.1 3 (by decide) (by decide) (by decide) (by decide) (by decide) (by decide)];exact h3,by rw[F.2.1 4 (by decide) (by decide) (by decide) (by decide) (by decide) (by decide)];exact h4,hv,ca⟩,fun h=>absurd rfl h⟩
 have ci:f1 (28,0,[.ref 0],[],S)=some (some (.int 1),S):=by
  rw[e1_28_0 hf1,m12,if_neg (own_nneg (by omega)),if_pos (show Int32.ofNat ks.length<32 from (own_lt (a:=ks.length) (b:=32) (by omega) (by decide)).mpr hk),if_pos (own_inb (by omega) hk),own_nat (by omega),if_pos h3]
 refine⟨_,?_,K,B⟩
 rw[e1_24_0 hf1,if_neg (by rw[R.1];decide),if_neg (by rw[R.1];decide),if_neg (by rw[R.1];decide),e1_31_0 hf1,e1_34_0 hf1,if_pos (by decide)];simp only[Option.bind_some,Option.toList_some,Option.toList_none,List.cons_append,List.nil_append,List.append_nil]
 rw[e1_31_5 hf1,if_pos rfl,if_neg (by decide),if_pos R.2.1,ci];simp only[Option.bind_some,Option.toList_some,Option.toList_none,List.cons_append,List.nil_append,List.append_nil]
 rw[e1_31_38 hf1,if_neg (by decide),if_pos rfl,e1];simp only[Option.bind_some,Option.toList_some,Option.toList_none,List.cons_append,List.nil_append,List.append_nil]
 rw[e1_31_53 hf1,e2];simp only[Option.bind_some,Option.toList_some,Option.toList_none,List.cons_append,List.nil_append,List.append_nil]
 rw[e1_31_57 hf1];simp only[Option.bind_some,Option.toList_some,Option.toList_none,List.cons_append,List.nil_append,List.append_nil]
 rw[e1_24_60 hf1]
 rfl
theorem own_fdH(hf1:Fx f1){ks:List (Nat×Nat)}{d:Nat}{S:MS}(hk:ks.length<32)(hd:d+1<40)(M:own_PM ks d S)(R:own_Rd S)(h3:S 3 ks.length=16∨S 3 ks.length=17):∃S',f1 (24,0,[.ref 0,.int 14,.int 0],[],S)=some (some (.int 1),S')∧own_Tk S S'∧own_PB (ks++[(1,0)]) (d+1) S':=by
 have M0:=M
 obtain⟨⟨m0,m13,m4,m12⟩,⟨g,T,⟨l1,l2⟩,g5,go⟩,P,hP⟩:=M
 have n2:S 3 ks.length≠2:=by rcases h3 with h | h<;>rw[h]<;>decide
 have L9:P ks.length<900:=by have:=hP.2.1;omega
 obtain⟨T',e1,A⟩:=own_rd2 hf1 m0 R (L:=P ks.length) (by omega) hP.1
 obtain⟨S',q,e2,F,hq,q6,cc⟩:=own_fcG hf1 hk L9 m0 m12 hP.2.2.2.1 A
 obtain⟨⟨⟨b0,b11,b13,b4⟩,-,P',p6',pl',co'⟩,K⟩:=own_PMF M0 hP F (x:=(1,0)) q6 ⟨fun h=>absurd h (by simp),fun _=>⟨by rw[F.2.1 3 (by decide) (by decide) (by decide) (by decide) (by decide) (by decide)];exact h3,cc⟩⟩
 have ci:f1 (28,0,[.ref 0],[],S)=some (some (.int 0),S):=by
  rw[e1_28_0 hf1,m12,if_neg (own_nneg (by omega)),if_pos (show Int32.ofNat ks.length<32 from (own_lt (a:=ks.length) (b:=32) (by omega) (by decide)).mpr hk),if_pos (own_inb (by omega) hk),own_nat (by omega),if_neg n2]
 have f13:S' 0 13=Int32.ofNat d:=(F.1 13 (by decide) (by decide) (by decide) (by decide)).trans m13
 have f12:S' 0 12=Int32.ofNat ks.length:=(F.1 12 (by decide) (by decide) (by decide) (by decide)).trans m12
 have fc:∀c,c≠0→c<27→c≠10→c≠13→c≠14→(c<19∨22<c)→∀i,S' c i=S c i:=F.2.1
 generalize hV:Jvm.OM.upd (Jvm.OM.upd (Jvm.OM.upd (Jvm.OM.upd S' 0 13 (Int32.ofNat (d+1))) 25 (d+1) (Int32.ofNat ks.length)) 26 (d+1) (-1)) 0 11 0=V
 have v0:∀i,i≠11→i≠13→V 0 i=S' 0 i:=fun i a b=>by rw[←hV,own_ne (by omega),own_ne (by omega),own_ne (by omega),own_ne (by omega)]
 have vc:∀c,c≠0→c≠25→c≠26→∀i,V c i=S' c i:=fun c a b e i=>by rw[←hV,own_ne (by omega),own_ne (by omega),own_ne (by omega),own_ne (by omega)]
 have v25:∀i,V 25 i=if i=d+1 then Int32.ofNat ks.length else S' 25 i:=fun i=>by
  rw[←hV,own_ne (by omega),own_ne (by omega),own_up]
  by_cases z:i=d+1
  ·rw[if_pos ⟨rfl,z⟩,if_pos z]
  ·rw[if_neg (fun h=>z h.2),if_neg z,own_ne (by omega)]
 have v26:∀i,V 26 i=if i=d+1 then -1 else S' 26 i:=fun i=>by
  rw[←hV,own_ne (by omega),own_up]
  by_cases z:i=d+1
  ·rw[if_pos ⟨rfl,z⟩,if_pos z]
  ·rw[if_neg (fun h=>z h.2),if_neg z,own_ne (by omega),own_ne (by omega)]
 have v11:V 0 11=0:=by rw[←hV];rfl
 have v13:V 0 13=Int32.ofNat (d+1):=by rw[←hV];rfl
 have len:(ks++[((1:Nat),(0:Nat))]).length=ks.length+1:=by simp
 refine⟨V,?_,?_,⟨?_,v11,v13,?_⟩,⟨own_go2 g ks.length d,?_,fun c a b s hs=>?_,fun e he=>⟨?_,?_⟩⟩,P',?_,pl',fun s hs=>⟨own_SCe (co' s hs).1 (fun c hc=>?_) fun c a b i _=>?_,?_⟩⟩
 ·rw[e1_24_0 hf1,if_neg (by rw[R.1];decide),if_neg (by rw[R.1];decide),if_neg (by rw[R.1];decide),e1_31_0 hf1,e1_34_0 hf1,if_neg (by decide),if_pos (by decide)];simp only[Option.bind_some,Option.toList_some,Option.toList_none,List.cons_append,List.nil_append,List.append_nil]
  rw[e1_31_5 hf1,if_pos rfl,if_neg (by decide),if_pos R.2.1,ci];simp only[Option.bind_some,Option.toList_some,Option.toList_none,List.cons_append,List.nil_append,List.append_nil]
  rw[e1_31_38 hf1,if_pos rfl,e1_31_64 hf1,if_pos rfl,if_pos rfl,e1];simp only[Option.bind_some,Option.toList_some,Option.toList_none,List.cons_append,List.nil_append,List.append_nil]
  rw[e1_31_79 hf1,e2];simp only[Option.bind_some,Option.toList_some,Option.toList_none,List.cons_append,List.nil_append,List.append_nil]
  rw[e1_31_83 hf1,e1_27_0 hf1,f13,f12,own_add1,if_neg (own_nneg (by omega)),if_pos (show Int32.ofNat (d+1)<40 from (own_lt (a:=d+1) (b:=40) (by omega) (by decide)).mpr hd),if_pos (own_inb (by omega) hd),own_nat (by omega),hV];simp only[Option.bind_some,Option.toList_some,Option.toList_none,List.cons_append,List.nil_append,List.append_nil]
  rw[e1_31_87 hf1];simp only[Option.bind_some,Option.toList_some,Option.toList_none,List.cons_append,List.nil_append,List.append_nil]
  rw[e1_24_60 hf1]
  rfl
 ·exact⟨(v0 3 (by decide) (by decide)).trans (F.1 3 (by decide) (by decide) (by decide) (by decide)),(v0 0 (by decide) (by decide)).trans (F.1 0 (by decide) (by decide) (by decide) (by decide)),(v0 1 (by decide) (by decide)).trans (F.1 1 (by decide) (by decide) (by decide) (by decide)),fun i=>(vc 1 (by decide) (by decide) (by decide) i).trans (fc 1 (by decide) (by decide) (by decide) (by decide) (by decide) (by decide) i),fun i=>(vc 2 (by decide) (by decide) (by decide) i).trans (fc 2 (by decide) (by decide) (by decide) (by decide) (by decide) (by decide) i)⟩
 ·rw[v0 0 (by decide) (by decide),F.1 0 (by decide) (by decide) (by decide) (by decide)];exact m0
 ·rw[v0 4 (by decide) (by decide),F.1 4 (by decide) (by decide) (by decide) (by decide),len];exact m4
 ·rw[len]
  refine own_TrK (own_TrO T n2 g5 go) fun s=>?_
  rw[vc 3 (by decide) (by decide) (by decide),fc 3 (by decide) (by decide) (by decide) (by decide) (by decide) (by decide)]
 ·rw[len] at hs
  rw[vc c (by omega) (by omega) (by omega),fc c (by omega) (by omega) (by omega) (by omega) (by omega) (by omega),l1 c a b s hs]
  show _=own_on (if c=25 then _ else if c=26 then _ else g c s)
  rw[if_neg (by omega),if_neg (by omega)]
 ·rw[v25]
  show _=own_on (if e=d+1 then some ks.length else g 25 e)
  by_cases z:e=d+1
  ·rw[if_pos z,if_pos z];rfl
  ·rw[if_neg z,if_neg z,fc 25 (by decide) (by decide) (by decide) (by decide) (by decide) (by decide)];exact (l2 e (by omega)).1
 ·rw[v26]
  show _=own_on (if e=d+1 then none else g 26 e)
  by_cases z:e=d+1
  ·rw[if_pos z,if_pos z];rfl
  ·rw[if_neg z,if_neg z,fc 26 (by decide) (by decide) (by decide) (by decide) (by decide) (by decide)];exact (l2 e (by omega)).2
 ·rw[v0 6 (by decide) (by decide)];exact p6'
 ·rw[vc c (by omega) (by omega) (by omega),own_ne (by omega)]
 ·rw[vc c (by omega) (by omega) (by omega),own_ne (by omega)]
 ·rw[vc 12 (by omega) (by omega) (by omega)]
  exact (own_ne (by omega)).symm.trans (co' s hs).2
end C2
theorem own_PM4{ks:List (Nat×Nat)}{d:Nat}{S:MS}(M:own_PM ks d S)(a:Int32):own_PM ks d (Jvm.OM.upd S 4 ks.length a):=by
 obtain⟨m,⟨g,T,⟨l1,l2⟩,g5,go⟩,P,p6,pl,co,p9,p12⟩:=M
 refine⟨m,⟨g,T,⟨fun c a b s hs=>?_,l2⟩,g5,go⟩,P,p6,pl,fun s hs=>⟨own_SCe (co s hs).1 (fun c hc=>own_ne (by omega)) fun c a b i _=>own_ne (by omega),?_⟩,p9,p12⟩
 ·rw[own_ne (by omega)];exact l1 c a b s hs
 ·rw[own_ne (by omega)];exact (co s hs).2
theorem own_sb1(e:Nat):Int32.ofNat (e+1)-1=Int32.ofNat e:=by rw[←own_add1,Int32.add_sub_cancel]
def own_tkA(S:MS)(i:Nat)(ts:List (Int32×Int32)):Prop:=∀k t,ts[k]? = some t→S 1 (i+k)=t.1∧S 2 (i+k)=t.2
section D2
variable {f1:FT1}
theorem own_imF(hf1:Fx f1){ks:List (Nat×Nat)}{d:Nat}{S:MS}{x:Nat×Nat×List (Int32×Int32)}(hk:ks.length<32)(hd:d+1<40)(B:own_PB ks d S)(hx:own_im x):(x.1=0→1≤d→∃S',own_fl f1 S x.2.2 S'∧own_PB ks (d-1) S')∧(x.1=1→∃S',own_fl f1 S x.2.2 S'∧own_PB (ks++[(1,x.2.1)]) (d+1) S')∧(x.1=2→∃S',own_fl f1 S x.2.2 S'∧own_PB (ks++[(2,x.2.1)]) d S'):=by
 have b11:S 0 11=0:=B.1.2.1
 rcases hx with rfl | ⟨kw,u,cmp,k,rfl,hkw,hc⟩ | ⟨v,r,rfl,hv,hr⟩
 ·refine⟨fun _ d1=>?_,fun h=>absurd h (by simp),fun h=>absurd h (by simp)⟩
  obtain⟨⟨b0,-,b13,b4⟩,⟨g,T,l1,l2⟩,P,p6,pl,co⟩:=B
  obtain⟨e,rfl⟩:∃e,d=e+1:=⟨d-1,by omega⟩
  refine⟨Jvm.OM.upd S 0 13 (Int32.ofNat e),⟨Jvm.OM.upd S 0 13 (Int32.ofNat e),?_,⟨rfl,rfl,rfl,fun _=>rfl,fun _=>rfl⟩,rfl⟩,⟨b0,b11,rfl,b4⟩,⟨g,own_TrC T,fun c a b s hs=>by rw[own_ne (by omega)];exact l1 c a b s hs,fun i hi=>l2 i (by omega)⟩,P,p6,pl,fun s hs=>⟨own_SCe (co s hs).1 (fun c hc=>own_ne (by omega)) fun c a b i _=>own_ne (by omega),(co s hs).2⟩⟩
  rw[e1_24_0 hf1,if_pos b11,e1_25_0 hf1,if_pos rfl,b13,if_pos (show 0<Int32.ofNat (e+1) from (own_lt (a:=0) (by omega) (by omega)).mpr (by omega)),show Int32.ofNat (e+1)-1=Int32.ofNat e from own_sb1 e];simp only[Option.bind_some,Option.toList_some,Option.toList_none,List.cons_append,List.nil_append,List.append_nil]
  rw[e1_24_13 hf1]
  rfl
 ·refine⟨fun h=>absurd h (by simp),fun _=>?_,fun h=>absurd h (by simp)⟩
  obtain⟨S1,e1,M1,K1,k1⟩:=own_nsP hf1 hk (by omega) B kw
  obtain⟨S2,e2,E2,Q2,s31,s29⟩:=own_reG hf1 S1
  have fd:f1 (24,0,[.ref 0,.int kw,.int 0],[],S)=some (some (.int 1),Jvm.OM.upd S2 0 11 2):=by
   have fs:f1 (25,0,[.ref 0,.int kw,.int 0],[],S)=some (some (.int 1),Jvm.OM.upd S2 0 11 2):=by
    have tl:f1 (25,51,[.ref 0,.int kw,.int 0],[.int (Int32.ofNat ks.length)],S1)=some (some (.int 1),Jvm.OM.upd S2 0 11 2):=by
     rw[e1_25_51 hf1,if_neg (own_nneg (by omega)),if_neg (by rcases hkw with h | h<;>rw[h]<;>decide),e2];simp only[Option.bind_some,Option.toList_some,Option.toList_none,List.cons_append,List.nil_append,List.append_nil]
     rw[e1_25_81 hf1]
    rw[e1_25_0 hf1]
    rcases hkw with rfl | rfl
    ·rw[if_neg (by decide),if_neg (by decide),if_pos rfl,e1];simp only[Option.bind_some,Option.toList_some,Option.toList_none,List.cons_append,List.nil_append,List.append_nil]
     exact tl
    ·rw[if_neg (by decide),if_neg (by decide),if_neg (by decide),if_pos rfl,e1];simp only[Option.bind_some,Option.toList_some,Option.toList_none,List.cons_append,List.nil_append,List.append_nil]
     exact tl
   rw[e1_24_0 hf1,if_pos b11,fs];simp only[Option.bind_some,Option.toList_some,Option.toList_none,List.cons_append,List.nil_append,List.append_nil]
   rw[e1_24_13 hf1]
   rfl
  have M3:own_PM ks d (Jvm.OM.upd S2 0 11 2):=own_PME M1 (own_Exu E2 (by omega))
  obtain⟨S4,f4,E4,R4⟩:=own_flE hf1 (S:=Jvm.OM.upd S2 0 11 2) ⟨rfl,Q2.2⟩ s29 s31 (r:=[(2,u),(cmp,0),(1,k)]) (Or.inr (Or.inr (Or.inl ⟨u,cmp,k,rfl,by rcases hc with h | h<;>rw[h]<;>simp[own_op]⟩)))
  obtain⟨S5,e5,K5,B5⟩:=own_fdH hf1 hk hd (own_PME M3 E4) R4 (by rw[E4.2 3 (by decide) (by decide),own_ne (by omega),E2.2 3 (by decide) (by decide),k1];exact hkw)
  exact⟨S5,⟨_,fd,own_Tkt K1 (own_TkE (own_Exu E2 (by omega))),own_flA f4 ⟨S5,e5,K5,rfl⟩⟩,B5⟩
 ·refine⟨fun h=>absurd h (by simp),fun h=>absurd h (by simp),fun _=>?_⟩
  obtain⟨S1,e1,M1,K1,k1⟩:=own_nsP hf1 hk (by omega) B 2
  have fd:f1 (24,0,[.ref 0,.int 2,.int (Int32.ofNat v)],[],S)=some (some (.int 1),Jvm.OM.upd (Jvm.OM.upd S1 4 ks.length (Int32.ofNat v)) 0 11 1):=by
   rw[e1_24_0 hf1,if_pos b11,e1_25_0 hf1,if_neg (by decide),if_pos rfl,e1];simp only[Option.bind_some,Option.toList_some,Option.toList_none,List.cons_append,List.nil_append,List.append_nil]
   rw[e1_25_51 hf1,if_neg (own_nneg (by omega)),if_pos rfl,if_pos (own_inb (by omega) hk),own_nat (by omega)];simp only[Option.bind_some,Option.toList_some,Option.toList_none,List.cons_append,List.nil_append,List.append_nil]
   rw[e1_24_13 hf1]
   rfl
  have M2:own_PM ks d (Jvm.OM.upd (Jvm.OM.upd S1 4 ks.length (Int32.ofNat v)) 0 11 1):=own_PME (own_PM4 M1 _) (own_Exu (own_Exr _) (by omega))
  generalize hU:Jvm.OM.upd (Jvm.OM.upd S1 4 ks.length (Int32.ofNat v)) 0 11 1=U at fd M2
  have u4:U 4 ks.length=Int32.ofNat v:=by rw[←hU,own_ne (by omega),own_up,if_pos ⟨rfl,rfl⟩]
  have u3:U 3 ks.length=2:=by rw[←hU,own_ne (by omega),own_ne (by omega)];exact k1
  have u11:U 0 11=1:=by rw[←hU];rfl
  have KU:own_Tk S U:=own_Tkt K1 (by rw[←hU];exact⟨rfl,rfl,rfl,fun i=>by rw[own_ne (by omega),own_ne (by omega)],fun i=>by rw[own_ne (by omega),own_ne (by omega)]⟩)
  clear hU
  obtain⟨S2,e2,E2,Q2,s31,s29⟩:=own_reG hf1 U
  have fd2:f1 (24,0,[.ref 0,.int 3,.int 0],[],U)=some (some (.int 1),Jvm.OM.upd S2 0 11 2):=by
   rw[e1_24_0 hf1,if_neg (by rw[u11];decide),if_pos u11,if_pos rfl,e2];simp only[Option.bind_some,Option.toList_some,Option.toList_none,List.cons_append,List.nil_append,List.append_nil]
   rw[e1_24_33 hf1]
  have E3:own_Ex U (Jvm.OM.upd S2 0 11 2):=own_Exu E2 (by omega)
  obtain⟨S4,f4,E4,R4⟩:=own_flE hf1 (S:=Jvm.OM.upd S2 0 11 2) ⟨rfl,Q2.2⟩ s29 s31 hr
  have E5:=own_Ext E3 E4
  obtain⟨S5,e5,K5,B5⟩:=own_fdS hf1 hk (own_PME M2 E5) R4 (by rw[E5.2 3 (by decide) (by decide)];exact u3) (by rw[E5.2 4 (by decide) (by decide)];exact u4) hv
  exact⟨S5,⟨U,fd,KU,_,fd2,own_TkE E3,own_flA f4 ⟨S5,e5,K5,rfl⟩⟩,B5⟩
theorem own_prs(hf1:Fx f1):∀(Its:List (Nat×Nat×List (Int32×Int32))) (ks:List (Nat×Nat)) (d d':Nat) (S:MS),own_PB ks d S→own_vl d Its d'→ks.length+Its.length≤30→d≤3→∃S',own_fl f1 S (Its.flatMap fun x=>x.2.2) S'∧own_PB (ks++own_st Its) d' S'
 |[],ks,d,d',S,B,V,_,_=>by
  have e:d=d':=V
  exact⟨S,rfl,by rw[←e];show own_PB (ks++[]) d S;rw[List.append_nil];exact B⟩
 |x::Its,ks,d,d',S,B,V,hl,hd=>by
  obtain⟨hx,v0,v1,v2⟩:=V
  rw[List.length_cons] at hl
  obtain⟨i0,i1,i2⟩:=own_imF hf1 (by omega) (by omega) B hx
  have tag:x.1=0∨x.1=1∨x.1=2:=by
   rcases hx with rfl | ⟨_,_,_,_,rfl,_⟩ | ⟨_,_,rfl,_⟩
   ·exact Or.inl rfl
   ·exact Or.inr (Or.inl rfl)
   ·exact Or.inr (Or.inr rfl)
  rcases tag with z | z | z
  ·obtain⟨d1,V'⟩:=v0 z
   obtain⟨S1,f,B1⟩:=i0 z d1
   obtain⟨S2,f2,B2⟩:=own_prs hf1 Its ks (d-1) d' S1 B1 V' (by omega) (by omega)
   refine⟨S2,by rw[List.flatMap_cons];exact own_flA f f2,?_⟩
   rw[show own_st (x::Its)=own_st Its from by unfold own_st;rw[List.flatMap_cons,if_pos z,List.nil_append]]
   exact B2
  ·obtain⟨d2,V'⟩:=v1 z
   obtain⟨S1,f,B1⟩:=i1 z
   obtain⟨S2,f2,B2⟩:=own_prs hf1 Its (ks++[(1,x.2.1)]) (d+1) d' S1 B1 V' (by rw[List.length_append,List.length_singleton];omega) (by omega)
   refine⟨S2,by rw[List.flatMap_cons];exact own_flA f f2,?_⟩
   rw[show own_st (x::Its)=[(1,x.2.1)]++own_st Its from by unfold own_st;rw[List.flatMap_cons,if_neg (by omega),z],←List.append_assoc]
   exact B2
  ·have V':=v2 z
   obtain⟨S1,f,B1⟩:=i2 z
   obtain⟨S2,f2,B2⟩:=own_prs hf1 Its (ks++[(2,x.2.1)]) d d' S1 B1 V' (by rw[List.length_append,List.length_singleton];omega) (by omega)
   refine⟨S2,by rw[List.flatMap_cons];exact own_flA f f2,?_⟩
   rw[show own_st (x::Its)=[(2,x.2.1)]++own_st Its from by unfold own_st;rw[List.flatMap_cons,if_neg (by omega),z],←List.append_assoc]
   exact B2
theorem own_pal2(hf1:Fx f1){c:Nat}(hc:c≤96):∀(ts:List (Int32×Int32)) (i:Nat) (S S':MS),own_fl f1 S ts S'→own_tkA S i ts→i+ts.length=c→S 0 3=Int32.ofNat c→f1 (22,6,[.ref 0,.int (Int32.ofNat i)],[],S)=f1 (22,47,[.ref 0,.int (Int32.ofNat c)],[],S')∧own_Tk S S'
 |[],i,S,S',h,_,hi,h3=>by
  have e:S'=S:=h
  have ei:i=c:=hi
  subst ei
  rw[e,e1_22_6 hf1,h3,if_neg Int32.lt_irrefl]
  exact⟨rfl,own_Tkr S⟩
 |t::ts,i,S,S',⟨S1,e,K,h⟩,hA,hi,h3=>by
  rw[List.length_cons] at hi
  obtain⟨a1,a2⟩:=hA 0 t rfl
  rw[Nat.add_zero] at a1 a2
  have A1:own_tkA S1 (i+1) ts:=fun k u hu=>by
   have:=hA (k+1) u (by rw[List.getElem?_cons_succ];exact hu)
   rw[K.2.2.2.1,K.2.2.2.2,show i+1+k=i+(k+1) from by omega];exact this
  obtain⟨e',K'⟩:=own_pal2 hf1 hc ts (i+1) S1 S' h A1 (by omega) (K.1.trans h3)
  refine⟨?_,own_Tkt K K'⟩
  rw[e1_22_6 hf1,h3,if_pos ((own_lt (by omega) (by omega)).mpr (by omega)),if_pos (show Int32.ofNat i<96 from (own_lt (a:=i) (b:=96) (by omega) (by decide)).mpr (by omega)),if_pos (own_inb (by omega) (by omega)),own_nat (by omega),a1,a2,e];simp only[Option.bind_some,Option.toList_some,Option.toList_none,List.cons_append,List.nil_append,List.append_nil]
  rw[e1_22_36 hf1,if_neg (by decide),own_add1]
  exact e'
theorem own_paG(hf1:Fx f1){S:MS}{Its:List (Nat×Nat×List (Int32×Int32))}(h0:1<S 0 0)(hc:(Its.flatMap fun x=>x.2.2).length≤96)(h3:S 0 3=Int32.ofNat (Its.flatMap fun x=>x.2.2).length)(hA:own_tkA S 0 (Its.flatMap fun x=>x.2.2))(hV:own_vl 0 Its 0)(hl:Its.length≤30):∃S',f1 (22,0,[.ref 0],[],S)=some (some (.int (-1)),S')∧own_Tk S S'∧own_PB (own_st Its) 0 S':=by
 generalize hU:Jvm.OM.upd (Jvm.OM.upd (Jvm.OM.upd (Jvm.OM.upd (Jvm.OM.upd (Jvm.OM.upd (Jvm.OM.upd (Jvm.OM.upd S 0 4 0) 0 6 0) 0 5 (-1)) 0 13 0) 25 0 (-1)) 26 0 (-1)) 0 11 0) 0 12 (-1)=U
 obtain⟨S1,e1,E1,Q1,-,-⟩:=own_reG hf1 U
 have KU:own_Tk S U:=by rw[←hU];exact⟨rfl,rfl,rfl,fun _=>rfl,fun _=>rfl⟩
 have K1:=own_Tkt KU (own_TkE E1)
 have B1:own_PB [] 0 S1:=by
  refine⟨⟨by rw[K1.2.1];exact h0,?_,?_,?_⟩,⟨fun _ _=>none,⟨rfl,fun e he=>absurd he (Nat.not_lt_zero _),fun _ _ _ _ _ _ h=>absurd h (by simp),fun _ _ _ h=>absurd h (by simp),fun s hs=>absurd hs (Nat.not_lt_zero _)⟩,fun c _ _ s hs=>absurd hs (Nat.not_lt_zero _),fun e he=>?_⟩,fun _=>0,?_,by simp,fun s hs=>absurd hs (Nat.not_lt_zero _)⟩
  ·rw[Q1.1,←hU];rfl
  ·rw[E1.1 13 (by decide) (by decide) (by decide) (by decide),←hU];rfl
  ·rw[E1.1 4 (by decide) (by decide) (by decide) (by decide),←hU];rfl
  ·have:e=0:=by omega
   subst this
   rw[E1.2 25 (by decide) (by decide),E1.2 26 (by decide) (by decide),←hU]
   exact⟨rfl,rfl⟩
  ·rw[E1.1 6 (by decide) (by decide) (by decide) (by decide),←hU];rfl
 obtain⟨S2,f,B2⟩:=own_prs hf1 Its [] 0 0 S1 B1 hV (by simpa using hl) (by omega)
 rw[List.nil_append] at B2
 obtain⟨e2,K2⟩:=own_pal2 hf1 hc (Its.flatMap fun x=>x.2.2) 0 S1 S2 f (fun k t ht=>by rw[K1.2.2.2.1,K1.2.2.2.2];exact hA k t ht) (by omega) (K1.1.trans h3)
 refine⟨S2,?_,own_Tkt K1 K2,B2⟩
 rw[e1_22_0 hf1,e1_23_0 hf1,hU,e1];simp only[Option.bind_some,Option.toList_some,Option.toList_none,List.cons_append,List.nil_append,List.append_nil]
 rw[e1_23_48 hf1];simp only[Option.bind_some,Option.toList_some,Option.toList_none,List.cons_append,List.nil_append,List.append_nil]
 rw[e1_22_4 hf1]
 rw[show f1 (22,6,[.ref 0,.int 0],[],S1)=_ from e2,e1_22_47 hf1,if_pos B2.1.2.1,if_pos (show S2 0 13=0 from B2.1.2.2.1)]
end D2
def own_bt(s:Int32)(c:Nat):Bool:=s.toBitVec.getLsbD c
theorem own_i31{c:Nat}(h:c<32):(Int32.ofNat c&&&31)=Int32.ofNat c:=by
 rw[←Int32.toBitVec_inj,Int32.toBitVec_and]
 apply BitVec.eq_of_toNat_eq
 rw[BitVec.toNat_and]
 show (BitVec.ofNat 32 c).toNat&&&31=(BitVec.ofNat 32 c).toNat
 rw[BitVec.toNat_ofNat,Nat.mod_eq_of_lt (by omega),show 31=2 ^ 5-1 from rfl,Nat.and_two_pow_sub_one_eq_mod,Nat.mod_eq_of_lt (by omega)]
theorem own_smod{c:Nat}(h:c<32):((Int32.ofNat c).toBitVec.smod 32).toNat=c:=by
 have:(Int32.ofNat c).toBitVec=BitVec.ofNat 32 c:=rfl
 rw[this]
 have e:∀c:Fin 32,((BitVec.ofNat 32 c.val).smod 32).toNat=c.val:=by decide
 exact e ⟨c,h⟩
theorem own_bit1{c:Nat}(h:c<32)(i:Nat):((1:Int32)<<<(Int32.ofNat c&&&31)).toBitVec.getLsbD i=decide (i=c):=by
 rw[own_i31 h,Int32.toBitVec_shiftLeft,BitVec.shiftLeft_eq',own_smod h,BitVec.getLsbD_shiftLeft]
 show (decide (i<32) && !decide (i<c)&&(1#32).getLsbD (i-c))=_
 rw[BitVec.getLsbD_one]
 by_cases e:i=c
 ·subst e;simp[h]
 ·rw[decide_eq_false e]
  by_cases q:i<c
  ·simp[q]
  ·have:¬i-c=0:=by omega
   simp[this]
theorem own_bsh(s:Int32){c:Nat}(h:c<32):((s>>>(Int32.ofNat c&&&31))&&&1=1)↔own_bt s c=true:=by
 have e:((s>>>(Int32.ofNat c&&&31))&&&1).toBitVec=if own_bt s c=true then 1#32 else 0#32:=by
  apply BitVec.eq_of_getLsbD_eq
  intro i hi
  rw[Int32.toBitVec_and,BitVec.getLsbD_and,own_i31 h,Int32.toBitVec_shiftRight,BitVec.sshiftRight_eq',own_smod h,BitVec.getLsbD_sshiftRight]
  show ((!decide (32≤i)&&if c+i<32 then s.toBitVec.getLsbD (c+i) else s.toBitVec.msb)&&(1#32).getLsbD i)=_
  rw[BitVec.getLsbD_one]
  by_cases i0:i=0
  ·subst i0
   unfold own_bt
   by_cases q:s.toBitVec.getLsbD c=true
   ·rw[if_pos q,if_pos (show c+0<32 by omega),Nat.add_zero,q];decide
   ·rw[if_neg q,if_pos (show c+0<32 by omega),Nat.add_zero]
    rw[Bool.not_eq_true] at q
    rw[q];decide
  ·rw[show decide (i=0)=false from decide_eq_false i0,Bool.and_false,Bool.and_false]
   split
   ·rw[BitVec.getLsbD_one,decide_eq_false i0,Bool.and_false]
   ·exact BitVec.getLsbD_zero.symm
 rw[←Int32.toBitVec_inj,e]
 by_cases q:own_bt s c=true
 ·rw[if_pos q];exact⟨fun _=>q,fun _=>rfl⟩
 ·rw[if_neg q];exact⟨fun h=>absurd h (by decide),fun h=>absurd h q⟩
theorem own_bz(v:Int32):v=0↔∀c,own_bt v c=false:=by
 rw[←Int32.toBitVec_inj]
 constructor
 ·intro h c;unfold own_bt;rw[h];exact BitVec.getLsbD_zero
 ·intro h
  apply BitVec.eq_of_getLsbD_eq
  intro i _
  exact (h i).trans BitVec.getLsbD_zero.symm
theorem own_bto(v w:Int32)(c:Nat):own_bt (v|||w) c=(own_bt v c||own_bt w c):=by
 unfold own_bt;rw[Int32.toBitVec_or,BitVec.getLsbD_or]
theorem own_bext{v w:Int32}(h:∀c,own_bt v c=own_bt w c):v=w:=by
 rw[←Int32.toBitVec_inj]
 apply BitVec.eq_of_getLsbD_eq
 exact fun i _=>h i
theorem own_andk(x:Int32){m:Nat}(hm:m<2147483648):∃k,k≤m∧x&&&Int32.ofNat m=Int32.ofNat k:=by
 refine⟨x.toBitVec.toNat&&&m,Nat.and_le_right,?_⟩
 rw[←Int32.toBitVec_inj,Int32.toBitVec_and]
 apply BitVec.eq_of_toNat_eq
 rw[BitVec.toNat_and]
 have:x.toBitVec.toNat&&&m≤m:=Nat.and_le_right
 show x.toBitVec.toNat&&&(BitVec.ofNat 32 m).toNat=(BitVec.ofNat 32 (x.toBitVec.toNat&&&m)).toNat
 rw[BitVec.toNat_ofNat,BitVec.toNat_ofNat,Nat.mod_eq_of_lt (by omega),Nat.mod_eq_of_lt (by omega)]
theorem own_b01(s:Int32){c:Nat}(hc:c<32):((s>>>(Int32.ofNat c&&&31))&&&1=0)↔own_bt s c=false:=by
 obtain⟨k,hk,e⟩:=own_andk (s>>>(Int32.ofNat c&&&31)) (m:=1) (by omega)
 have e':(s>>>(Int32.ofNat c&&&31))&&&1=Int32.ofNat k:=e
 have h:=own_bsh s hc
 rw[e'] at h ⊢
 by_cases q:k=0
 ·subst q
  refine⟨fun _=>?_,fun _=>rfl⟩
  cases eb:own_bt s c
  ·rfl
  ·exact absurd (h.mpr eb) (by decide)
 ·have k1:k=1:=by omega
  subst k1
  refine⟨fun q=>absurd q (by decide),fun q=>?_⟩
  have:=h.mp rfl
  rw[q] at this;exact absurd this (by decide)
def own_suc(K:Nat→Int32)(g:Nat→Nat→Option Nat):Nat→Nat→Option Nat
 |0,_=>none
 |f+1,s=>match g 7 s with
  |some t=>some t
  |none=>match g 5 s with
   |none=>none
   |some p=>if K p=16 then some p else own_suc K g f p
def own_sr:Option Nat→Int32
 |none => -2
 |some t=>Int32.ofNat t
def own_bx(S:MS)(s:Nat):Int32:=if S 3 s=2 then 1<<<((S 4 s&&&7)&&&31) else 0
def own_km:Nat→Int32
 |0 => -1
 |k+1=>Int32.ofNat k
theorem own_kmp:∀k,own_km (k+1)+(-1)=own_km k
 |0=>rfl
 |k+1=>by
  show Int32.ofNat (k+1)+(-1)=Int32.ofNat k
  rw[←own_add1,Int32.add_assoc,show (1:Int32)+(-1)=0 from rfl,Int32.add_zero]
def own_nz2(S:MS)(s:Nat):Int32:=if S 8 s<0 then if S 3 s=16 then Int32.ofNat s else S 11 s else S 8 s
def own_MK(S:MS)(g:Nat→Nat→Option Nat)(t:Nat):Prop:=(∀w,own_bt (own_bx S t) w=true→own_bt (S 12 t) w=true)∧∀p,g 5 t=some p→∀w,own_bt (S 12 t) w=true→own_bt (S 12 p) w=true
def own_dv(S:MS)(x y:Option Nat):Int32:=match x with
 |some q=>S 15 q|||own_bx S q
 |none=>match y with
  |some p=>S 15 p
  |none=>0
theorem own_sucA{K:Nat→Int32}{g:Nat→Nat→Option Nat}{f s t:Nat}(h:g 7 s=some t):own_suc K g (f+1) s=some t:=by simp only[own_suc,h]
theorem own_sucB{K:Nat→Int32}{g:Nat→Nat→Option Nat}{f s:Nat}(h:g 7 s=none)(h':g 5 s=none):own_suc K g (f+1) s=none:=by simp only[own_suc,h,h']
theorem own_sucC{K:Nat→Int32}{g:Nat→Nat→Option Nat}{f s p:Nat}(h:g 7 s=none)(h':g 5 s=some p):own_suc K g (f+1) s=if K p=16 then some p else own_suc K g f p:=by simp only[own_suc,h,h']
theorem own_onz{x:Option Nat}{j:Nat}(hx:∀p,x=some p→p<j):(x=none∧own_on x<0)∨∃p,x=some p∧p<j∧own_on x=Int32.ofNat p:=by
 cases x with
 |none=>exact Or.inl ⟨rfl,by decide⟩
 |some p=>exact Or.inr ⟨p,rfl,hx p rfl,rfl⟩
theorem own_bx8{S:MS}{s v:Nat}(h3:S 3 s=2)(h4:S 4 s=Int32.ofNat v)(hv:v<8)(w:Nat):own_bt (own_bx S s) w=decide (w=v):=by
 unfold own_bx
 have e:∀v:Fin 8,(Int32.ofNat v.val&&&7)=Int32.ofNat v.val:=by decide
 rw[if_pos h3,h4,e ⟨v,hv⟩]
 exact own_bit1 (by omega) w
section E2
variable {f1:FT1}
theorem own_boG(hf1:Fx f1){S:MS}{s:Nat}(hs:s<32):f1 (56,0,[.ref 0,.int (Int32.ofNat s)],[],S)=some (some (.int (own_bx S s)),S):=by
 rw[e1_56_0 hf1,if_neg (own_nneg (by omega)),if_pos (show Int32.ofNat s<32 from (own_lt (a:=s) (b:=32) (by omega) (by decide)).mpr hs),if_pos (own_inb (by omega) hs),own_nat (by omega)]
 unfold own_bx
 by_cases h:S 3 s=2
 ·rw[if_pos h,if_pos h]
 ·rw[if_neg h,if_neg h]
theorem own_suG(hf1:Fx f1){n:Nat}(hn:n≤30){S:MS}(h4:S 0 4=Int32.ofNat n){g:Nat→Nat→Option Nat}(T:own_Tr n 0 (S 3) g)(hl:∀c,5≤c→c≤8→∀s,s<n→S c s=own_on (g c s))(x1:Int32):∀(f s:Nat),s<n→f≤33→f1 (54,4,[.ref 0,.int x1,.int (Int32.ofNat s),.int (Int32.ofNat (33-f))],[],S)=some (some (.int (own_sr (own_suc (S 3) g f s))),S)
 |0,s,hs,hf=>by
  rw[e1_54_4 hf1,if_pos (by decide)]
  rfl
 |f+1,s,hs,hf=>by
  rw[e1_54_4 hf1,if_neg (show ¬32<Int32.ofNat (33-(f+1)) from fun z=>by have:=(own_lt (a:=32) (by omega) (by omega)).mp z;omega),if_neg (own_nneg (by omega)),h4,if_pos ((own_lt (by omega) (by omega)).mpr hs),if_pos (show Int32.ofNat s<32 from (own_lt (a:=s) (b:=32) (by omega) (by decide)).mpr (by omega)),if_pos (own_inb (by omega) (by omega)),own_nat (by omega),hl 7 (by decide) (by decide) s hs,hl 5 (by decide) (by decide) s hs]
  obtain⟨t1,-,t3,-,-⟩:=T.2.2.2.2 s hs
  rcases own_onz (x:=g 7 s) (j:=n) (fun t ht=>(t3 t ht).1) with⟨e,l⟩ | ⟨t,e,l,eo⟩
  ·rw[if_pos l]
   rcases own_onz (x:=g 5 s) (j:=n) (fun p hp=>by have:=(t1 p hp).1;omega) with⟨e',l'⟩ | ⟨p,e',l',eo'⟩
   ·rw[if_pos l',own_sucB e e']
    rfl
   ·rw[eo',if_neg (own_nneg (by omega)),if_pos (show Int32.ofNat p<32 from (own_lt (a:=p) (b:=32) (by omega) (by decide)).mpr (by omega)),if_pos (own_inb (by omega) (by omega)),own_nat (by omega),own_sucC e e']
    by_cases k:S 3 p=16
    ·rw[if_pos k,if_pos k];rfl
    ·rw[if_neg k,if_neg k,own_add1,show 33-(f+1)+1=33-f from by omega]
     exact own_suG hf1 hn h4 T hl x1 f p (by omega) (by omega)
  ·rw[eo,if_neg (own_nneg (by omega)),own_sucA e]
   rfl
theorem own_l1G(hf1:Fx f1){n:Nat}(hn:n≤30){S:MS}(h4:S 0 4=Int32.ofNat n){g:Nat→Nat→Option Nat}(T:own_Tr n 0 (S 3) g)(hl:∀c,5≤c→c≤8→∀s,s<n→S c s=own_on (g c s)):∀(f s:Nat),s+f=n→∀U:MS,(∀c,c≠11→∀i,U c i=S c i)→(∀t,t<s→U 11 t=own_sr (own_suc (S 3) g 33 t))→∃S',f1 (53,12,[.ref 0,.int (Int32.ofNat s)],[],U)=f1 (53,45,[.ref 0,.int 0],[],S')∧(∀c,c≠11→∀i,S' c i=S c i)∧∀t,t<n→S' 11 t=own_sr (own_suc (S 3) g 33 t)
 |0,s,h,U,hU,h11=>by
  have:s=n:=by omega
  subst this
  rw[e1_53_12 hf1,hU 0 (by decide) 4,h4,if_neg (fun z=>by have:=(own_lt (by omega) (by omega)).mp z;omega)]
  exact⟨U,rfl,hU,h11⟩
 |f+1,s,h,U,hU,h11=>by
  have k3:U 3=S 3:=funext (hU 3 (by decide))
  have e:=own_suG hf1 hn (S:=U) ((hU 0 (by decide) 4).trans h4) (g:=g) (by rw[k3];exact T) (fun c a b s hs=>(hU c (by omega) s).trans (hl c a b s hs)) (Int32.ofNat s) 33 s (by omega) (Nat.le_refl _)
  have e':f1 (54,0,[.ref 0,.int (Int32.ofNat s)],[],U)=some (some (.int (own_sr (own_suc (S 3) g 33 s))),U):=by
   rw[e1_54_0 hf1,←k3];exact e
  rw[e1_53_12 hf1,hU 0 (by decide) 4,h4,if_pos ((own_lt (by omega) (by omega)).mpr (by omega)),if_pos (show Int32.ofNat s<32 from (own_lt (a:=s) (b:=32) (by omega) (by decide)).mpr (by omega)),e'];simp only[Option.bind_some,Option.toList_some,Option.toList_none,List.cons_append,List.nil_append,List.append_nil]
  rw[e1_53_36 hf1,if_pos (own_inb (by omega) (by omega)),own_add1,own_nat (by omega)]
  refine own_l1G hf1 hn h4 T hl f (s+1) (by omega) _ (fun c hc i=>(own_ne (by omega)).trans (hU c hc i)) fun t ht=>?_
  by_cases q:t=s
  ·rw[own_up,if_pos ⟨rfl,q⟩,q]
  ·rw[own_ne (by omega)];exact h11 t (by omega)
theorem own_l2G(hf1:Fx f1){n:Nat}(hn:n≤30){E:Nat→Nat}{c:Nat}{S:MS}(h4:S 0 4=Int32.ofNat n)(h6:S 0 6=Int32.ofNat c)(hc:c≤1000)(hs:∀s,s<n→S 10 s=Int32.ofNat (E s)∧E s<c)(hE:∀s t,s<t→t<n→E s<E t):∀(f s:Nat),s+f=n→∀U:MS,(∀c,c≠21→c≠22→∀i,U c i=S c i)→(∀t,t<s→(S 3 t=2→U 21 (E t)=S 11 t)∧(S 3 t≠2→U 21 (E t)=own_nz2 S t∧U 22 (E t)=S 11 t))→(∀i,(∀t,t<s→i≠E t)→U 21 i=S 21 i)→∃x S',f1 (53,45,[.ref 0,.int (Int32.ofNat s)],[],U)=((f1 (57,0,[.ref 0],[],S')).bind fun q=>f1 (53,74,[.ref 0,.int x],q.1.toList++[],q.2))∧(∀c,c≠21→c≠22→∀i,S' c i=S c i)∧(∀t,t<n→(S 3 t=2→S' 21 (E t)=S 11 t)∧(S 3 t≠2→S' 21 (E t)=own_nz2 S t∧S' 22 (E t)=S 11 t))∧(∀i,(∀t,t<n→i≠E t)→S' 21 i=S 21 i)
 |0,s,h,U,hU,ha,hb=>by
  have:s=n:=by omega
  subst this
  rw[e1_53_45 hf1,hU 0 (by decide) (by decide) 4,h4,if_neg (fun z=>by have:=(own_lt (by omega) (by omega)).mp z;omega)]
  exact⟨_,U,rfl,hU,ha,hb⟩
 |f+1,s,h,U,hU,ha,hb=>by
  obtain⟨s10,sc⟩:=hs s (by omega)
  have pt:∃V,f1 (55,0,[.ref 0,.int (Int32.ofNat s)],[],U)=some (none,V)∧(∀c i,¬((c=21∨c=22)∧i=E s)→V c i=U c i)∧(S 3 s=2→V 21 (E s)=S 11 s)∧(S 3 s≠2→V 21 (E s)=own_nz2 S s∧V 22 (E s)=S 11 s):=by
   rw[e1_55_0 hf1,if_pos (own_inb (by omega) (by omega)),own_nat (by omega),hU 10 (by decide) (by decide) s,s10,if_neg (own_nneg (by omega)),hU 0 (by decide) (by decide) 6,h6,if_pos ((own_lt (by omega) (by omega)).mpr sc),if_pos (show Int32.ofNat (E s)<1024 from (own_lt (a:=E s) (b:=1024) (by omega) (by decide)).mpr (by omega)),hU 3 (by decide) (by decide) s,hU 11 (by decide) (by decide) s,hU 8 (by decide) (by decide) s]
   have f85:∀x4,∃V,f1 (55,85,[.ref 0,.int (Int32.ofNat s),.int (Int32.ofNat (E s)),.int (S 11 s),.int x4],[],U)=some (none,V)∧(∀c i,¬((c=21∨c=22)∧i=E s)→V c i=U c i)∧V 21 (E s)=x4∧V 22 (E s)=S 11 s:=fun x4=>by
    rw[e1_55_85 hf1,if_pos (own_inb (by omega) (by omega)),own_nat (by omega)]
    refine⟨_,rfl,fun c i h=>by rw[own_ne (by omega),own_ne (by omega)],?_,?_⟩
    ·rw[own_ne (by omega),own_up,if_pos ⟨rfl,rfl⟩]
    ·rw[own_up,if_pos ⟨rfl,rfl⟩]
   by_cases k2:S 3 s=2
   ·rw[if_pos k2,if_pos (own_inb (by omega) (by omega)),own_nat (by omega)]
    exact⟨_,rfl,fun c i h=>own_ne (by omega),fun _=>by rw[own_up,if_pos ⟨rfl,rfl⟩],fun h=>absurd k2 h⟩
   ·rw[if_neg k2]
    unfold own_nz2
    by_cases k8:S 8 s<0
    ·rw[if_pos k8]
     by_cases k16:S 3 s=16
     ·rw[if_pos k16]
      obtain⟨V,e,F,v1,v2⟩:=f85 (Int32.ofNat s)
      exact⟨V,e,F,fun h=>absurd h k2,fun _=>⟨by rw[v1,if_pos k8,if_pos k16],v2⟩⟩
     ·rw[if_neg k16]
      obtain⟨V,e,F,v1,v2⟩:=f85 (S 11 s)
      exact⟨V,e,F,fun h=>absurd h k2,fun _=>⟨by rw[v1,if_pos k8,if_neg k16],v2⟩⟩
    ·rw[if_neg k8]
     obtain⟨V,e,F,v1,v2⟩:=f85 (S 8 s)
     exact⟨V,e,F,fun h=>absurd h k2,fun _=>⟨by rw[v1,if_neg k8],v2⟩⟩
  obtain⟨V,eV,F,v1,v2⟩:=pt
  rw[e1_53_45 hf1,hU 0 (by decide) (by decide) 4,h4,if_pos ((own_lt (by omega) (by omega)).mpr (by omega)),if_pos (show Int32.ofNat s<32 from (own_lt (a:=s) (b:=32) (by omega) (by decide)).mpr (by omega)),eV];simp only[Option.bind_some,Option.toList_some,Option.toList_none,List.cons_append,List.nil_append,List.append_nil]
  rw[e1_53_64 hf1,own_add1]
  obtain⟨x,S',e',r⟩:=own_l2G hf1 hn h4 h6 hc hs hE f (s+1) (by omega) V (fun c a b i=>(F c i (by omega)).trans (hU c a b i)) (fun t ht=>by
   by_cases q:t=s
   ·rw[q];exact⟨v1,v2⟩
   ·have:=hE t s (by omega) (by omega)
    rw[F 21 _ (by omega),F 22 _ (by omega)]
    exact ha t (by omega)) fun i hi=>by
   have:=hi s (by omega)
   rw[F 21 _ (by omega)];exact hb i fun t ht=>hi t (by omega)
  refine⟨x,S',e'.trans ?_,r⟩
  simp only[List.append_nil]
theorem own_cmG(hf1:Fx f1){n:Nat}(hn:n≤30){S:MS}{g:Nat→Nat→Option Nat}(T:own_Tr n 0 (S 3) g)(hl:∀s,s<n→S 5 s=own_on (g 5 s)):∀(k:Nat),k≤n→∀U:MS,(∀c,c≠12→∀i,U c i=S c i)→(∀t,k≤t→t<n→own_MK U g t)→∃S',f1 (57,7,[.ref 0,.int (own_km k)],[],U)=some (none,S')∧(∀c,c≠12→∀i,S' c i=S c i)∧∀t,t<n→own_MK S' g t
 |0,_,U,hU,hM=>by
  rw[e1_57_7 hf1,if_pos (by decide)]
  exact⟨U,rfl,hU,fun t ht=>hM t (Nat.zero_le _) ht⟩
 |s+1,hs,U,hU,hM=>by
  have ib:inb (Int32.ofNat s) 32=true:=own_inb (by omega) (by omega)
  obtain⟨t1,-⟩:=T.2.2.2.2 s (by omega)
  have bxe:∀V:MS,(∀c,c≠12→∀i,V c i=S c i)→∀t,own_bx V t=own_bx S t:=fun V hV t=>by unfold own_bx;rw[hV 3 (by decide),hV 4 (by decide)]
  have go:∀V:MS,(∀c,c≠12→∀i,V c i=S c i)→(∀i w,own_bt (U 12 i) w=true→own_bt (V 12 i) w=true)→(∀t,s<t→V 12 t=U 12 t)→own_MK V g s→∃S',f1 (57,7,[.ref 0,.int (Int32.ofNat s+(-1))],[],V)=some (none,S')∧(∀c,c≠12→∀i,S' c i=S c i)∧∀t,t<n→own_MK S' g t:=fun V hV up eq ms=>by
   rw[show Int32.ofNat s+(-1)=own_km s from own_kmp s]
   refine own_cmG hf1 hn T hl s (by omega) V hV fun t h1 h2=>?_
   by_cases z:t=s
   ·rw[z];exact ms
   ·obtain⟨m1,m2⟩:=hM t (by omega) h2
    refine⟨fun w hw=>?_,fun p hp w hw=>?_⟩
    ·rw[bxe V hV,←bxe U hU] at hw
     rw[eq t (by omega)];exact m1 w hw
    ·rw[eq t (by omega)] at hw
     exact up p w (m2 p hp w hw)
  show ∃S',f1 (57,7,[.ref 0,.int (Int32.ofNat s)],[],U)=some (none,S')∧_
  rw[e1_57_7 hf1,if_neg (own_nneg (by omega)),if_pos (show Int32.ofNat s<32 from (own_lt (a:=s) (b:=32) (by omega) (by decide)).mpr (by omega)),if_pos ib,own_boG hf1 (by omega)];simp only[Option.bind_some,Option.toList_some,Option.toList_none,List.cons_append,List.nil_append,List.append_nil]
  rw[e1_57_36 hf1,if_pos ib,if_pos ib,own_nat (by omega),hU 5 (by decide) s,hl s (by omega)]
  have b1:∀w,own_bt (own_bx U s) w=true→own_bt (U 12 s|||own_bx U s) w=true:=fun w hw=>by rw[own_bto,hw,Bool.or_true]
  have b2:∀i w,own_bt (U 12 i) w=true→own_bt (Jvm.OM.upd U 12 s (U 12 s|||own_bx U s) 12 i) w=true:=fun i w hw=>by
   rw[own_up]
   by_cases z:i=s
   ·rw[if_pos ⟨rfl,z⟩,own_bto,←z,hw];rfl
   ·rw[if_neg (fun h=>z h.2)];exact hw
  rcases own_onz (x:=g 5 s) (j:=s) (fun p hp=>(t1 p hp).1) with⟨e,l⟩ | ⟨p,e,l,eo⟩
  ·rw[if_pos l]
   refine go _ (fun c hc i=>(own_ne (by omega)).trans (hU c hc i)) b2 (fun t ht=>own_ne (by omega)) ⟨fun w hw=>?_,fun p hp=>by rw[e] at hp;exact absurd hp (by simp)⟩
   rw[bxe _ (fun c hc i=>(own_ne (by omega)).trans (hU c hc i)),←bxe U hU] at hw
   rw[own_up,if_pos ⟨rfl,rfl⟩];exact b1 w hw
  ·rw[eo,if_neg (own_nneg (by omega)),if_pos (show Int32.ofNat p<32 from (own_lt (a:=p) (b:=32) (by omega) (by decide)).mpr (by omega)),if_pos (own_inb (by omega) (by omega)),own_nat (by omega)]
   have hV:∀c,c≠12→∀i,Jvm.OM.upd (Jvm.OM.upd U 12 s (U 12 s|||own_bx U s)) 12 p (Jvm.OM.upd U 12 s (U 12 s|||own_bx U s) 12 p|||Jvm.OM.upd U 12 s (U 12 s|||own_bx U s) 12 s) c i=S c i:=fun c hc i=>by rw[own_ne (by omega),own_ne (by omega)];exact hU c hc i
   refine go _ hV (fun i w hw=>?_) (fun t ht=>by rw[own_ne (by omega),own_ne (by omega)]) ⟨fun w hw=>?_,fun p' hp w hw=>?_⟩
   ·by_cases z:i=p
    ·rw[z,own_up,if_pos ⟨rfl,rfl⟩,own_bto,b2 p w (by rw[←z];exact hw)];rfl
    ·rw[own_ne (fun h=>z h.2)];exact b2 i w hw
   ·rw[bxe _ hV,←bxe U hU] at hw
    rw[own_ne (by omega),own_up,if_pos ⟨rfl,rfl⟩];exact b1 w hw
   ·rw[e] at hp
    rw[←Option.some.inj hp,own_up,if_pos ⟨rfl,rfl⟩,own_bto]
    rw[own_ne (by omega)] at hw
    rw[hw,Bool.or_true]
theorem own_cdG(hf1:Fx f1){n:Nat}(hn:n≤30){S:MS}(h4:S 0 4=Int32.ofNat n){g:Nat→Nat→Option Nat}(T:own_Tr n 0 (S 3) g)(hl:∀c,5≤c→c≤8→∀s,s<n→S c s=own_on (g c s))(h5:S 0 5=own_on (g 26 0)):∀(f s:Nat),s+f=n→∀U:MS,(∀c,c≠15→∀i,U c i=S c i)→(∀t,t<s→U 15 t=own_dv U (g 6 t) (g 5 t))→∃S',f1 (58,2,[.ref 0,.int (Int32.ofNat s)],[],U)=some (none,S')∧(∀c,c≠15→∀i,S' c i=S c i)∧(∀t,t<n→S' 15 t=own_dv S' (g 6 t) (g 5 t))∧S' 15 n=own_dv S' (g 26 0) none
 |0,s,h,U,hU,ha=>by
  have:s=n:=by omega
  subst this
  have u4:U 0 4=Int32.ofNat s:=(hU 0 (by decide) 4).trans h4
  have bx:∀v t,own_bx (Jvm.OM.upd U 15 s v) t=own_bx U t:=fun v t=>by unfold own_bx;rw[own_ne (by omega),own_ne (by omega)]
  have dv:∀v x y,(∀q,x=some q→q<s)→(∀q,y=some q→q<s)→own_dv (Jvm.OM.upd U 15 s v) x y=own_dv U x y:=fun v x y hx hy=>by
   unfold own_dv
   cases x with
   |some q=>have:=hx q rfl;show Jvm.OM.upd U 15 s v 15 q|||own_bx _ q=_;rw[own_ne (by omega),bx]
   |none=>cases y with
    |some p=>have:=hy p rfl;show Jvm.OM.upd U 15 s v 15 p=_;rw[own_ne (by omega)]
    |none=>rfl
  have f136:∀x:Int32,x=own_dv U (g 26 0) none→∃S',f1 (58,136,[.ref 0,.int x],[],U)=some (none,S')∧(∀c,c≠15→∀i,S' c i=S c i)∧(∀t,t<s→S' 15 t=own_dv S' (g 6 t) (g 5 t))∧S' 15 s=own_dv S' (g 26 0) none:=fun x hx=>by
   rw[e1_58_136 hf1,u4,if_neg (own_nneg (by omega)),if_pos (show Int32.ofNat s<40 from (own_lt (a:=s) (b:=40) (by omega) (by decide)).mpr (by omega)),if_pos (own_inb (by omega) (by omega)),own_nat (by omega)]
   refine⟨_,rfl,fun c hc i=>(own_ne (by omega)).trans (hU c hc i),fun t ht=>?_,?_⟩
   ·obtain⟨t1,t2,-⟩:=T.2.2.2.2 t ht
    rw[own_ne (by omega),dv x _ _ (fun q hq=>by have:=(t2 q hq).1;omega) (fun q hq=>by have:=(t1 q hq).1;omega)]
    exact ha t ht
   ·rw[own_up,if_pos ⟨rfl,rfl⟩,dv x _ _ (fun q hq=>(T.2.2.2.1 0 (Nat.le_refl _) q hq).1) (fun q hq=>absurd hq (by simp))];exact hx
  rw[e1_58_2 hf1,u4,if_neg (fun z=>by have:=(own_lt (by omega) (by omega)).mp z;omega),e1_58_99 hf1,hU 0 (by decide) 5,h5]
  rcases own_onz (x:=g 26 0) (j:=s) (fun q hq=>(T.2.2.2.1 0 (Nat.le_refl _) q hq).1) with⟨e,l⟩ | ⟨q,e,l,eo⟩
  ·rw[if_pos l]
   exact f136 _ (by rw[e];rfl)
  ·rw[eo,if_neg (own_nneg (by omega)),if_pos (show Int32.ofNat q<32 from (own_lt (a:=q) (b:=32) (by omega) (by decide)).mpr (by omega)),if_pos (own_inb (by omega) (by omega)),own_boG hf1 (by omega),own_nat (by omega)];simp only[Option.bind_some,Option.toList_some,Option.toList_none,List.cons_append,List.nil_append,List.append_nil]
   rw[e1_58_134 hf1]
   exact f136 _ (by rw[e];rfl)
 |f+1,s,h,U,hU,ha=>by
  have u4:U 0 4=Int32.ofNat n:=(hU 0 (by decide) 4).trans h4
  obtain⟨t1,t2,-⟩:=T.2.2.2.2 s (by omega)
  have ib:inb (Int32.ofNat s) 40=true:=own_inb (by omega) (by omega)
  have bx:∀v t,own_bx (Jvm.OM.upd U 15 s v) t=own_bx U t:=fun v t=>by unfold own_bx;rw[own_ne (by omega),own_ne (by omega)]
  have dv:∀v x y,(∀q,x=some q→q<s)→(∀q,y=some q→q<s)→own_dv (Jvm.OM.upd U 15 s v) x y=own_dv U x y:=fun v x y hx hy=>by
   unfold own_dv
   cases x with
   |some q=>have:=hx q rfl;show Jvm.OM.upd U 15 s v 15 q|||own_bx _ q=_;rw[own_ne (by omega),bx]
   |none=>cases y with
    |some p=>have:=hy p rfl;show Jvm.OM.upd U 15 s v 15 p=_;rw[own_ne (by omega)]
    |none=>rfl
  have nx:∀v,v=own_dv U (g 6 s) (g 5 s)→∃S',f1 (58,2,[.ref 0,.int (Int32.ofNat (s+1))],[],Jvm.OM.upd U 15 s v)=some (none,S')∧(∀c,c≠15→∀i,S' c i=S c i)∧(∀t,t<n→S' 15 t=own_dv S' (g 6 t) (g 5 t))∧S' 15 n=own_dv S' (g 26 0) none:=fun v hv=>by
   refine own_cdG hf1 hn h4 T hl h5 f (s+1) (by omega) _ (fun c hc i=>(own_ne (by omega)).trans (hU c hc i)) fun t ht=>?_
   obtain⟨t1,t2,-⟩:=T.2.2.2.2 t (by omega)
   rw[dv v _ _ (fun q hq=>by have:=(t2 q hq).1;omega) (fun q hq=>by have:=(t1 q hq).1;omega)]
   by_cases q:t=s
   ·rw[own_up,if_pos ⟨rfl,q⟩,q];exact hv
   ·rw[own_ne (by omega)];exact ha t (by omega)
  rw[e1_58_2 hf1,u4,if_pos ((own_lt (by omega) (by omega)).mpr (by omega)),if_pos (show Int32.ofNat s<32 from (own_lt (a:=s) (b:=32) (by omega) (by decide)).mpr (by omega)),if_pos (own_inb (by omega) (by omega)),own_nat (by omega),hU 6 (by decide) s,hU 5 (by decide) s,hl 6 (by decide) (by decide) s (by omega),hl 5 (by decide) (by decide) s (by omega)]
  rcases own_onz (x:=g 6 s) (j:=s) (fun q hq=>(t2 q hq).1) with⟨e,l⟩ | ⟨q,e,l,eo⟩
  ·rw[if_pos l,e1_58_61 hf1]
   rcases own_onz (x:=g 5 s) (j:=s) (fun q hq=>(t1 q hq).1) with⟨e',l'⟩ | ⟨p,e',l',eo'⟩
   ·rw[if_pos l',if_pos ib,own_add1,own_nat (by omega)]
    exact nx _ (by rw[e,e'];rfl)
   ·rw[eo',if_neg (own_nneg (by omega)),if_pos (show Int32.ofNat p<32 from (own_lt (a:=p) (b:=32) (by omega) (by decide)).mpr (by omega)),if_pos (own_inb (by omega) (by omega)),if_pos ib,own_add1,own_nat (by omega),own_nat (by omega)]
    exact nx _ (by rw[e,e'];rfl)
  ·rw[eo,if_neg (own_nneg (by omega)),if_pos (show Int32.ofNat q<32 from (own_lt (a:=q) (b:=32) (by omega) (by decide)).mpr (by omega)),if_pos (own_inb (by omega) (by omega)),own_boG hf1 (by omega),own_nat (by omega)];simp only[Option.bind_some,Option.toList_some,Option.toList_none,List.cons_append,List.nil_append,List.append_nil]
   rw[e1_58_56 hf1,if_pos ib,own_add1,own_nat (by omega)]
   exact nx _ (by rw[e];rfl)
end E2
def own_tg(S:MS)(g:Nat→Nat→Option Nat)(s t:Nat):Prop:=(S 3 s=2→S 21 t=own_sr (own_suc (S 3) g 33 s))∧(S 3 s≠2→S 22 t=own_sr (own_suc (S 3) g 33 s)∧((∃u,g 8 s=some u∧S 21 t=Int32.ofNat u)∨(S 3 s=16∧S 21 t=Int32.ofNat s)∨S 21 t=own_sr (own_suc (S 3) g 33 s)))
def own_LP(ks:List (Nat×Nat))(g:Nat→Nat→Option Nat)(S:MS):Prop:=(S 0 4=Int32.ofNat ks.length∧S 0 5=own_on (g 26 0))∧own_Tr ks.length 0 (S 3) g∧(∀c,5≤c→c≤8→∀s,s<ks.length→S c s=own_on (g c s))∧(∃P:Nat→Nat,S 0 6=Int32.ofNat (P ks.length)∧P ks.length≤5*ks.length∧(∀a b,a≤b→b≤ks.length→P a≤P b)∧∀s,s<ks.length→own_SC S s (P s) (P (s+1)) (ks.getD s (0,0))∧own_tg S g s (P (s+1)-1))∧(∀t,t<ks.length→own_MK S g t)∧(∀t,t<ks.length→S 15 t=own_dv S (g 6 t) (g 5 t))∧S 15 ks.length=own_dv S (g 26 0) none
theorem own_LPe{ks:List (Nat×Nat)}{g:Nat→Nat→Option Nat}{S S':MS}(h:own_LP ks g S)(e4:S' 0 4=S 0 4)(e5:S' 0 5=S 0 5)(e6:S' 0 6=S 0 6)(ec:∀c,((3≤c∧c≤15)∨(19≤c∧c≤22))→∀i,S' c i=S c i):own_LP ks g S':=by
 obtain⟨⟨h4,h5⟩,T,hl,⟨P,p6,pl,pm,hs⟩,hm,hd,hd'⟩:=h
 have k3:S' 3=S 3:=funext (ec 3 (by omega))
 have bx:∀t,own_bx S' t=own_bx S t:=fun t=>by unfold own_bx;rw[ec 3 (by omega),ec 4 (by omega)]
 have dv:∀x y,own_dv S' x y=own_dv S x y:=fun x y=>by
  unfold own_dv
  cases x with
  |some q=>show S' 15 q|||own_bx S' q=_;rw[ec 15 (by omega),bx]
  |none=>cases y with
   |some p=>exact ec 15 (by omega) p
   |none=>rfl
 refine⟨⟨e4.trans h4,e5.trans h5⟩,by rw[k3];exact T,fun c a b s hs=>(ec c (by omega) s).trans (hl c a b s hs),⟨P,e6.trans p6,pl,pm,fun s l=>⟨own_SCe (hs s l).1 (fun c hc=>ec c (by omega) s) fun c a b i _=>ec c (by omega) i,?_⟩⟩,fun t ht=>⟨fun w hw=>?_,fun p hp w hw=>?_⟩,fun t ht=>?_,?_⟩
 ·unfold own_tg
  rw[k3,ec 21 (by omega),ec 22 (by omega)]
  exact (hs s l).2
 ·rw[bx] at hw
  rw[ec 12 (by omega)];exact (hm t ht).1 w hw
 ·rw[ec 12 (by omega)] at hw ⊢
  exact (hm t ht).2 p hp w hw
 ·rw[ec 15 (by omega),dv];exact hd t ht
 ·rw[ec 15 (by omega),dv];exact hd'
def own_wk(S:MS)(g:Nat→Nat→Option Nat):Nat→Option Nat→Nat→Option Nat
 |0,_,_=>none
 |_+1,none,_=>none
 |f+1,some q,v=>if S 3 q=2∧S 4 q=Int32.ofNat v then some q else if own_bt (S 12 q) v=true then none else own_wk S g f (g 6 q) v
theorem own_wke{S S':MS}{g:Nat→Nat→Option Nat}(h3:∀i,S' 3 i=S 3 i)(h4:∀i,S' 4 i=S 4 i)(h12:∀i,S' 12 i=S 12 i):∀f q v,own_wk S' g f q v=own_wk S g f q v
 |0,_,_=>rfl
 |_+1,none,_=>rfl
 |f+1,some q,v=>by rw[own_wk,own_wk,h3,h4,h12,own_wke h3 h4 h12 f]
def own_pq(g:Nat→Nat→Option Nat)(n i:Nat):Option Nat:=if i<n then g 6 i else g 26 0
def own_LC(S:MS)(g:Nat→Nat→Option Nat)(n i v:Nat):Prop:=(S 17 (i*8+v)=1∧S 18 (i*8+v)=Int32.ofNat v)∨(∃q0 f,own_wk S g f (own_pq g n i) v=some q0∧S 13 q0=2∧S 17 (i*8+v)=2∧S 18 (i*8+v)=S 14 q0∧(i<n→S 3 i=16→own_bt (S 12 i) v=false))∨(∃q0,own_pq g n i=some q0∧S 3 q0=2∧S 4 q0=Int32.ofNat v∧S 13 q0=3∧S 17 (i*8+v)=3∧S 18 (i*8+v)=S 14 q0∧(i<n→S 3 i≠16))
theorem own_LCe{S S':MS}{g:Nat→Nat→Option Nat}{n i v:Nat}(h:own_LC S g n i v)(ec:∀c,3≤c→c≤14→∀i,S' c i=S c i)(e17:S' 17 (i*8+v)=S 17 (i*8+v))(e18:S' 18 (i*8+v)=S 18 (i*8+v)):own_LC S' g n i v:=by
 rcases h with⟨a,b⟩ | ⟨q0,f,a,b,c,d,e⟩ | ⟨q0,a,b,c,d,e,h,k⟩
 ·exact Or.inl ⟨e17.trans a,e18.trans b⟩
 ·exact Or.inr (Or.inl ⟨q0,f,by rw[own_wke (ec 3 (by omega) (by omega)) (ec 4 (by omega) (by omega)) (ec 12 (by omega) (by omega))];exact a,by rw[ec 13 (by omega) (by omega)];exact b,e17.trans c,by rw[e18,ec 14 (by omega) (by omega)];exact d,by rw[ec 3 (by omega) (by omega),ec 12 (by omega) (by omega)];exact e⟩)
 ·exact Or.inr (Or.inr ⟨q0,a,by rw[ec 3 (by omega) (by omega)];exact b,by rw[ec 4 (by omega) (by omega)];exact c,by rw[ec 13 (by omega) (by omega)];exact d,e17.trans e,by rw[e18,ec 14 (by omega) (by omega)];exact h,by rw[ec 3 (by omega) (by omega)];exact k⟩)
def own_LL(k n:Nat)(g:Nat→Nat→Option Nat)(S U:MS):Prop:=(∀c,c≠17→c≠18→∀i,U c i=S c i)∧∀i v,i≤n→v<8→i*8+v<k→own_bt (S 15 i) v=true→own_LC U g n i v
theorem own_SCf{S S':MS}{s p q:Nat}{x:Nat×Nat}(h:own_SC S s p q x)(e:∀c,(c=3∨c=4∨c=9∨c=10∨c=13∨c=14)→S' c s=S c s)(ek:∀c,19≤c→c≤20→∀i,S' c i=S c i)(e21:∀i,p≤i→i+1<q→S' 21 i=S 21 i):own_SC S' s p q x:=by
 refine⟨fun z=>?_,fun z=>?_⟩
 ·obtain⟨h3,h4,h8,m,m3,hq,h9,h10,hj,a,b,c,d⟩:=h.1 z
  refine⟨(e 3 (by omega)).trans h3,(e 4 (by omega)).trans h4,h8,m,m3,hq,(e 9 (by omega)).trans h9,(e 10 (by omega)).trans h10,fun j l=>?_,?_,?_,?_,?_⟩
  ·rw[ek 19 (by decide) (by decide)];exact hj j l
  ·rw[ek 20 (by decide) (by decide)];exact a
  ·rw[ek 19 (by decide) (by decide)];exact b
  ·rw[e 14 (by omega),e21 _ (by omega) (by omega)];exact c
  ·rw[e 13 (by omega),ek 19 (by decide) (by decide)];exact d
 ·obtain⟨h3,m,m3,hq,h9,h10,hj,a⟩:=h.2 z
  refine⟨by rw[e 3 (by omega)];exact h3,m,m3,hq,(e 9 (by omega)).trans h9,(e 10 (by omega)).trans h10,fun j l=>?_,?_⟩
  ·rw[ek 19 (by decide) (by decide)];exact hj j l
  ·rw[ek 19 (by decide) (by decide)];exact a
theorem own_SCt{S:MS}{s p q:Nat}{x:Nat×Nat}(h:own_SC S s p q x):S 10 s=Int32.ofNat (q-1)∧p≤q-1∧q-1<q:=by
 by_cases z:x.1=2
 ·obtain⟨-,-,-,m,h1,h2,-,h10,-⟩:=h.1 z
  exact⟨by rw[h10];congr 1;omega,by omega,by omega⟩
 ·obtain⟨-,m,h1,h2,-,h10,-⟩:=h.2 z
  exact⟨by rw[h10];congr 1;omega,by omega,by omega⟩
section F2
variable {f1:FT1}
theorem own_lkG(hf1:Fx f1){ks:List (Nat×Nat)}(hn:ks.length≤30){S:MS}(B:own_PB ks 0 S):∃S' g,f1 (53,0,[.ref 0],[],S)=some (none,S')∧own_Tk S S'∧own_LP ks g S':=by
 obtain⟨⟨b0,b11,b13,b4⟩,⟨g,T,l1,l2⟩,P,p6,pl,co⟩:=B
 have cs:∀s,s<ks.length→own_SC S s (P s) (P (s+1)) (ks.getD s (0,0)):=fun s hs=>(co s hs).1
 have pm:∀a b,a≤b→b≤ks.length→P a≤P b:=fun a b h1 h2=>own_Pm2 cs h1 h2
 obtain⟨S1,e1,k1,s1⟩:=own_l1G hf1 hn (S:=Jvm.OM.upd S 0 5 (S 26 0)) b4 (g:=g) T (fun c a b s hs=>(own_ne (by omega)).trans (l1 c a b s hs)) ks.length 0 (by omega) _ (fun _ _ _=>rfl) (fun t ht=>absurd ht (Nat.not_lt_zero _))
 have k1':∀c,c≠0→c≠11→∀i,S1 c i=S c i:=fun c h0 h11 i=>(k1 c h11 i).trans (own_ne (by omega))
 have k10:∀i,i≠5→S1 0 i=S 0 i:=fun i hi=>(k1 0 (by decide) i).trans (own_ne (by omega))
 have k15:S1 0 5=own_on (g 26 0):=((k1 0 (by decide) 5).trans rfl).trans (l2 0 (Nat.le_refl _)).2
 have k13:S1 3=S 3:=funext (k1' 3 (by decide) (by decide))
 obtain⟨x,S2,e2,k2,s2,s2'⟩:=own_l2G hf1 hn (E:=fun s=>P (s+1)-1) (c:=P ks.length) (S:=S1) ((k10 4 (by decide)).trans b4) ((k10 6 (by decide)).trans p6) (by omega) (fun s hs=>by
  obtain⟨t1,t2,t3⟩:=own_SCt (cs s hs)
  have:=pm (s+1) ks.length (by omega) (Nat.le_refl _)
  exact⟨(k1' 10 (by decide) (by decide) s).trans t1,by show P (s+1)-1<P ks.length;omega⟩) (fun s t h1 h2=>by
  have:=pm (s+1) t (by omega) (by omega)
  have:=own_SCl (cs t h2)
  have:=own_SCl (cs s (by omega))
  show P (s+1)-1<P (t+1)-1
  omega) ks.length 0 (by omega) S1 (fun _ _ _ _=>rfl) (fun t ht=>absurd ht (Nat.not_lt_zero _)) (fun _ _=>rfl)
 have q2:∀c,c≠0→c≠11→c≠21→c≠22→∀i,S2 c i=S c i:=fun c h0 h11 h21 h22 i=>(k2 c h21 h22 i).trans (k1' c h0 h11 i)
 have q20:∀i,i≠5→S2 0 i=S 0 i:=fun i hi=>(k2 0 (by decide) (by decide) i).trans (k10 i hi)
 have q23:S2 3=S 3:=funext (q2 3 (by decide) (by decide) (by decide) (by decide))
 obtain⟨S3,e3,k3,m3⟩:=own_cmG hf1 hn (S:=S2) (g:=g) (by rw[q23];exact T) (fun s hs=>(q2 5 (by decide) (by decide) (by decide) (by decide) s).trans (l1 5 (by decide) (by decide) s hs)) ks.length (Nat.le_refl _) S2 (fun _ _ _=>rfl) (fun t h1 h2=>by omega)
 have q3:∀c,c≠0→c≠11→c≠12→c≠21→c≠22→∀i,S3 c i=S c i:=fun c h0 h11 h12 h21 h22 i=>(k3 c h12 i).trans (q2 c h0 h11 h21 h22 i)
 have q30:∀i,i≠5→S3 0 i=S 0 i:=fun i hi=>(k3 0 (by decide) i).trans (q20 i hi)
 have q35:S3 0 5=own_on (g 26 0):=(k3 0 (by decide) 5).trans ((k2 0 (by decide) (by decide) 5).trans k15)
 have q33:S3 3=S 3:=funext (q3 3 (by decide) (by decide) (by decide) (by decide) (by decide))
 obtain⟨S4,e4,k4,d4,d4'⟩:=own_cdG hf1 hn (S:=S3) ((q30 4 (by decide)).trans b4) (g:=g) (by rw[q33];exact T) (fun c a b s hs=>(q3 c (by omega) (by omega) (by omega) (by omega) (by omega) s).trans (l1 c a b s hs)) q35 ks.length 0 (by omega) S3 (fun _ _ _=>rfl) (fun t ht=>absurd ht (Nat.not_lt_zero _))
 have r0:∀i,i≠5→S4 0 i=S 0 i:=fun i hi=>(k4 0 (by decide) i).trans (q30 i hi)
 have rc:∀c,c≠0→c≠11→c≠12→c≠15→c≠21→c≠22→∀i,S4 c i=S c i:=fun c h0 h11 h12 h15 h21 h22 i=>(k4 c h15 i).trans (q3 c h0 h11 h12 h21 h22 i)
 have r21:∀i,S4 21 i=S2 21 i:=fun i=>(k4 21 (by decide) i).trans (k3 21 (by decide) i)
 have r22:∀i,S4 22 i=S2 22 i:=fun i=>(k4 22 (by decide) i).trans (k3 22 (by decide) i)
 have r3:S4 3=S 3:=funext (rc 3 (by decide) (by decide) (by decide) (by decide) (by decide) (by decide))
 refine⟨S4,g,?_,⟨r0 3 (by decide),r0 0 (by decide),r0 1 (by decide),rc 1 (by decide) (by decide) (by decide) (by decide) (by decide) (by decide),rc 2 (by decide) (by decide) (by decide) (by decide) (by decide) (by decide)⟩,⟨(r0 4 (by decide)).trans b4,(k4 0 (by decide) 5).trans q35⟩,by rw[r3];exact T,fun c a b s hs=>(rc c (by omega) (by omega) (by omega) (by omega) (by omega) (by omega) s).trans (l1 c a b s hs),⟨P,(r0 6 (by decide)).trans p6,pl,pm,fun s hs=>⟨own_SCf (cs s hs) (fun c hc=>rc c (by omega) (by omega) (by omega) (by omega) (by omega) (by omega) s) (fun c a b i=>rc c (by omega) (by omega) (by omega) (by omega) (by omega) (by omega) i) fun i hi1 hi2=>?_,?_⟩⟩,fun t ht=>⟨fun w hw=>?_,fun p hp w hw=>?_⟩,d4,d4'⟩
 ·have km:own_km ks.length=S2 0 4-1:=by
   rw[q20 4 (by decide),b4]
   cases ks.length with
   |zero=>rfl
   |succ k=>exact (own_sb1 k).symm
  rw[e1_53_0 hf1,show f1 (53,12,[.ref 0,.int 0],[],Jvm.OM.upd S 0 5 (S 26 0))=_ from e1,show f1 (53,45,[.ref 0,.int 0],[],S1)=_ from e2,e1_57_0 hf1,←km,e3];simp only[Option.bind_some,Option.toList_some,Option.toList_none,List.cons_append,List.nil_append,List.append_nil]
  rw[e1_53_74 hf1,e1_58_0 hf1,show f1 (58,2,[.ref 0,.int 0],[],S3)=_ from e4];simp only[Option.bind_some,Option.toList_some,Option.toList_none,List.cons_append,List.nil_append,List.append_nil]
  rw[e1_53_78 hf1]
 ·rw[r21,s2' i (fun t ht=>?_),k1' 21 (by decide) (by decide)]
  show i≠P (t+1)-1
  have:=own_SCl (cs t ht)
  by_cases z:t<s
  ·have:=pm (t+1) s (by omega) (by omega)
   omega
  ·by_cases z':t=s
   ·subst z';omega
   ·have:=pm (s+1) t (by omega) (by omega)
    omega
 ·obtain⟨a1,a2⟩:=s2 s hs
  rw[k13] at a1 a2
  have e11:S1 11 s=own_sr (own_suc (S 3) g 33 s):=s1 s hs
  refine⟨fun h=>?_,fun h=>?_⟩
  ·rw[r3] at h ⊢
   rw[r21];exact (a1 h).trans e11
  ·rw[r3] at h ⊢
   obtain⟨b1,b2⟩:=a2 h
   refine⟨by rw[r22];exact b2.trans e11,?_⟩
   have b1':S4 21 (P (s+1)-1)=own_nz2 S1 s:=by rw[r21];exact b1
   unfold own_nz2 at b1'
   rw[k1' 8 (by decide) (by decide),k13,e11,l1 8 (by decide) (by decide) s hs] at b1'
   rcases own_onz (x:=g 8 s) (j:=ks.length) (fun t ht=>((T.2.2.2.2 s hs).2.2.2.1 t ht).1) with⟨e,l⟩ | ⟨u,e,l,eo⟩
   ·rw[if_pos l] at b1'
    by_cases k16:S 3 s=16
    ·rw[if_pos k16] at b1';exact Or.inr (Or.inl ⟨k16,b1'⟩)
    ·rw[if_neg k16] at b1';exact Or.inr (Or.inr b1')
   ·rw[eo,if_neg (own_nneg (by omega))] at b1'
    exact Or.inl ⟨u,e,b1'⟩
 ·have bx:own_bx S4 t=own_bx S3 t:=by unfold own_bx;rw[k4 3 (by decide),k4 4 (by decide)]
  rw[bx] at hw
  rw[k4 12 (by decide)];exact (m3 t ht).1 w hw
 ·rw[k4 12 (by decide)] at hw ⊢
  exact (m3 t ht).2 p hp w hw
theorem own_loG(hf1:Fx f1){n:Nat}(hn:n≤30){g:Nat→Nat→Option Nat}{x:Nat}(hx:x<320)(x1 x4:Int32){v:Nat}(hv:v<8){U:MS}(h4:U 0 4=Int32.ofNat n)(T:own_Tr n 0 (U 3) g)(hl:∀s,s<n→U 6 s=own_on (g 6 s))(h17:U 17 x=1)(h18:U 18 x=Int32.ofNat v):∀(f gg:Nat),gg+f=33→∀(q:Option Nat) (x6:Int32),(∀p,q=some p→p<n)→∃S',f1 (60,152,[.ref 0,.int x1,.int (Int32.ofNat v),.int (Int32.ofNat x),.int x4,.int (own_on q),.int x6,.int (Int32.ofNat gg)],[],U)=some (none,S')∧(∀c i,¬((c=17∨c=18)∧i=x)→S' c i=U c i)∧((S' 17 x=1∧S' 18 x=Int32.ofNat v)∨(∃q0 f,own_wk U g f q v=some q0∧U 13 q0=2∧S' 17 x=2∧S' 18 x=U 14 q0)∨(x6≠0∧x4=0∧∃q0,q=some q0∧U 3 q0=2∧U 4 q0=Int32.ofNat v∧U 13 q0=3∧S' 17 x=3∧S' 18 x=U 14 q0))
 |0,gg,h,q,x6,hq=>by
  have:gg=33:=by omega
  subst this
  rw[e1_60_152 hf1,if_pos (by decide)]
  exact⟨U,rfl,fun _ _ _=>rfl,Or.inl ⟨h17,h18⟩⟩
 |f+1,gg,h,q,x6,hq=>by
  rw[e1_60_152 hf1,if_neg (show ¬32<Int32.ofNat gg from fun z=>by have:=(own_lt (a:=32) (b:=gg) (by decide) (by omega)).mp z;omega)]
  rcases own_onz (x:=q) (j:=n) hq with⟨e,l⟩ | ⟨p,e,l,eo⟩
  ·rw[if_pos l];exact⟨U,rfl,fun _ _ _=>rfl,Or.inl ⟨h17,h18⟩⟩
  ·have ib:inb (Int32.ofNat p) 32=true:=own_inb (by omega) (by omega)
   obtain⟨-,t2,-⟩:=T.2.2.2.2 p l
   rw[eo,if_neg (own_nneg (by omega)),h4,if_pos ((own_lt (by omega) (by omega)).mpr l),if_pos (show Int32.ofNat p<32 from (own_lt (a:=p) (b:=32) (by omega) (by decide)).mpr (by omega)),if_pos ib,own_nat (by omega)]
   have dd:∀fl:Int32,(fl=0∨(fl=1∧x6≠0∧x4=0))→U 3 p=2→U 4 p=Int32.ofNat v→∃S',((f1 (61,0,[.ref 0,.int (Int32.ofNat x),.int (Int32.ofNat p),.int fl],[],U)).bind fun q=>f1 (60,224,[.ref 0,.int x1,.int (Int32.ofNat v),.int (Int32.ofNat x),.int x4,.int (Int32.ofNat p),.int x6,.int (Int32.ofNat gg)],q.1.toList++[],q.2))=some (none,S')∧(∀c i,¬((c=17∨c=18)∧i=x)→S' c i=U c i)∧((S' 17 x=1∧S' 18 x=Int32.ofNat v)∨(∃q0 f,own_wk U g f q v=some q0∧U 13 q0=2∧S' 17 x=2∧S' 18 x=U 14 q0)∨(x6≠0∧x4=0∧∃q0,q=some q0∧U 3 q0=2∧U 4 q0=Int32.ofNat v∧U 13 q0=3∧S' 17 x=3∧S' 18 x=U 14 q0)):=fun fl hfl k3 k4=>by
    have wk:own_wk U g 1 q v=some p:=by rw[e,own_wk,if_pos ⟨k3,k4⟩]
    rw[e1_61_0 hf1,if_pos ib,own_nat (by omega),if_pos (own_inb (by omega) hx),own_nat (by omega)]
    by_cases a:U 13 p=2
    ·rw[if_pos a];simp only[Option.bind_some,Option.toList_some,Option.toList_none,List.cons_append,List.nil_append,List.append_nil]
     rw[e1_60_224 hf1]
     refine⟨_,rfl,fun c i h=>by rw[own_ne (by omega),own_ne (by omega)],Or.inr (Or.inl ⟨p,1,wk,a,?_,?_⟩)⟩
     ·rw[own_ne (by omega),own_up,if_pos ⟨rfl,rfl⟩]
     ·rw[own_up,if_pos ⟨rfl,rfl⟩]
    ·rw[if_neg a]
     rcases hfl with z | ⟨z,z6,z4⟩
     ·rw[if_pos z];simp only[Option.bind_some,Option.toList_some,Option.toList_none,List.cons_append,List.nil_append,List.append_nil]
      rw[e1_60_224 hf1]
      exact⟨U,rfl,fun _ _ _=>rfl,Or.inl ⟨h17,h18⟩⟩
     ·rw[if_neg (by rw[z];decide)]
      by_cases b:U 13 p=3
      ·rw[if_pos b,if_pos (own_inb (by omega) hx)];simp only[Option.bind_some,Option.toList_some,Option.toList_none,List.cons_append,List.nil_append,List.append_nil]
       rw[e1_60_224 hf1]
       refine⟨_,rfl,fun c i h=>by rw[own_ne (by omega),own_ne (by omega)],Or.inr (Or.inr ⟨z6,z4,p,e,k3,k4,b,?_,?_⟩)⟩
       ·rw[own_ne (by omega),own_up,if_pos ⟨rfl,rfl⟩]
       ·rw[own_up,if_pos ⟨rfl,rfl⟩]
      ·rw[if_neg b];simp only[Option.bind_some,Option.toList_some,Option.toList_none,List.cons_append,List.nil_append,List.append_nil]
       rw[e1_60_224 hf1]
       exact⟨U,rfl,fun _ _ _=>rfl,Or.inl ⟨h17,h18⟩⟩
   have f225:¬(U 3 p=2∧U 4 p=Int32.ofNat v)→∃S',f1 (60,225,[.ref 0,.int x1,.int (Int32.ofNat v),.int (Int32.ofNat x),.int x4,.int (Int32.ofNat p),.int x6,.int (Int32.ofNat gg)],[],U)=some (none,S')∧(∀c i,¬((c=17∨c=18)∧i=x)→S' c i=U c i)∧((S' 17 x=1∧S' 18 x=Int32.ofNat v)∨(∃q0 f,own_wk U g f q v=some q0∧U 13 q0=2∧S' 17 x=2∧S' 18 x=U 14 q0)∨(x6≠0∧x4=0∧∃q0,q=some q0∧U 3 q0=2∧U 4 q0=Int32.ofNat v∧U 13 q0=3∧S' 17 x=3∧S' 18 x=U 14 q0)):=fun hno=>by
    rw[e1_60_225 hf1,if_pos ib,own_nat (by omega),own_add1]
    by_cases w:(U 12 p>>>(Int32.ofNat v&&&31))&&&1=0
    ·have wf:=(own_b01 (U 12 p) (c:=v) (by omega)).mp w
     rw[if_pos w,hl p l]
     obtain⟨S',e',F,R⟩:=own_loG hf1 hn hx x1 x4 hv h4 T hl h17 h18 f (gg+1) (by omega) (g 6 p) 0 (fun q' hq'=>by have:=(t2 q' hq').1;omega)
     refine⟨S',e',F,?_⟩
     rcases R with r | ⟨q0,f',r1,r2⟩ | ⟨r,-⟩
     ·exact Or.inl r
     ·refine Or.inr (Or.inl ⟨q0,f'+1,?_,r2⟩)
      rw[e,own_wk,if_neg hno,if_neg (by rw[wf];decide)];exact r1
     ·exact absurd rfl r
    ·rw[if_neg w];exact⟨U,rfl,fun _ _ _=>rfl,Or.inl ⟨h17,h18⟩⟩
   by_cases k3:U 3 p=2
   ·rw[if_pos k3]
    by_cases k4:U 4 p=Int32.ofNat v
    ·rw[if_pos k4]
     by_cases z6:x6=0
     ·rw[if_pos z6];exact dd 0 (Or.inl rfl) k3 k4
     ·rw[if_neg z6]
      by_cases z4:x4=0
      ·rw[if_pos z4];exact dd 1 (Or.inr ⟨rfl,z6,z4⟩) k3 k4
      ·rw[if_neg z4];exact dd 0 (Or.inl rfl) k3 k4
    ·rw[if_neg k4];exact f225 fun h=>k4 h.2
   ·rw[if_neg k3];exact f225 fun h=>k3 h.1
theorem own_loH(hf1:Fx f1){n:Nat}(hn:n≤30){g:Nat→Nat→Option Nat}{S:MS}(h4:S 0 4=Int32.ofNat n)(h5:S 0 5=own_on (g 26 0))(T:own_Tr n 0 (S 3) g)(hl:∀s,s<n→S 6 s=own_on (g 6 s)){i v:Nat}(hi:i≤n)(hv:v<8):∃S',f1 (60,0,[.ref 0,.int (Int32.ofNat i),.int (Int32.ofNat v)],[],S)=some (none,S')∧(∀c k,¬((c=17∨c=18)∧k=i*8+v)→S' c k=S c k)∧(own_bt (S 15 i) v=true→own_LC S' g n i v):=by
 have e:Int32.ofNat i*8+Int32.ofNat v=Int32.ofNat (i*8+v):=by rw[Int32.ofNat_add,Int32.ofNat_mul];rfl
 rw[e1_60_0 hf1,e,if_neg (own_nneg (by omega)),if_pos (show Int32.ofNat (i*8+v)<320 from (own_lt (a:=i*8+v) (b:=320) (by omega) (by decide)).mpr (by omega)),if_pos (show Int32.ofNat i<40 from (own_lt (a:=i) (b:=40) (by omega) (by decide)).mpr (by omega)),if_pos (own_inb (by omega) (by omega)),if_pos (own_inb (by omega) (by omega)),own_nat (by omega),own_nat (by omega)]
 by_cases w:(S 15 i>>>(Int32.ofNat v&&&31))&&&1=0
 ·rw[if_pos w]
  refine⟨_,rfl,fun c k h=>by rw[own_ne (by omega),own_ne (by omega)],fun hb=>?_⟩
  rw[(own_b01 _ (by omega)).mp w] at hb;exact absurd hb (by decide)
 ·rw[if_neg w]
  generalize hU:Jvm.OM.upd (Jvm.OM.upd (Jvm.OM.upd (Jvm.OM.upd S 17 (i*8+v) 0) 18 (i*8+v) 0) 17 (i*8+v) 1) 18 (i*8+v) (Int32.ofNat v)=U
  have u:∀c k,¬((c=17∨c=18)∧k=i*8+v)→U c k=S c k:=fun c k h=>by
   rw[←hU]
   rw[own_ne (by omega),own_ne (by omega),own_ne (by omega),own_ne (by omega)]
  have u17:U 17 (i*8+v)=1:=by rw[←hU,own_ne (by omega),own_up,if_pos ⟨rfl,rfl⟩]
  have u18:U 18 (i*8+v)=Int32.ofNat v:=by rw[←hU,own_up,if_pos ⟨rfl,rfl⟩]
  clear hU
  have u4:U 0 4=Int32.ofNat n:=(u 0 4 (by omega)).trans h4
  have u3:U 3=S 3:=funext fun k=>u 3 k (by omega)
  have TU:own_Tr n 0 (U 3) g:=by rw[u3];exact T
  have pq:∀p,own_pq g n i=some p→p<n:=fun p hp=>by
   unfold own_pq at hp
   by_cases q:i<n
   ·rw[if_pos q] at hp;have:=((T.2.2.2.2 i q).2.1 p hp).1;omega
   ·rw[if_neg q] at hp;exact (T.2.2.2.1 0 (Nat.le_refl _) p hp).1
  have tail:∀x4:Int32,(x4=0→i<n→S 3 i≠16)→(i<n→S 3 i=16→own_bt (S 12 i) v=false)→∃S',f1 (60,118,[.ref 0,.int (Int32.ofNat i),.int (Int32.ofNat v),.int (Int32.ofNat (i*8+v)),.int x4],[],U)=some (none,S')∧(∀c k,¬((c=17∨c=18)∧k=i*8+v)→S' c k=S c k)∧(own_bt (S 15 i) v=true→own_LC S' g n i v):=fun x4 z4 zm=>by
   obtain⟨S',e',F,R⟩:=own_loG hf1 hn (x:=i*8+v) (by omega) (Int32.ofNat i) x4 hv u4 TU (fun s hs=>(u 6 s (by omega)).trans (hl s hs)) u17 u18 33 0 rfl (own_pq g n i) 1 pq
   have ec:∀c,3≤c→c≤14→∀k,S' c k=U c k:=fun c a b k=>F c k (by omega)
   refine⟨S',?_,fun c k h=>(F c k h).trans (u c k h),fun _=>?_⟩
   ·rw[e1_60_118 hf1,u4]
    by_cases q:i<n
    ·rw[if_pos ((own_lt (by omega) (by omega)).mpr q),if_pos (show Int32.ofNat i<32 from (own_lt (a:=i) (b:=32) (by omega) (by decide)).mpr (by omega)),if_pos (own_inb (by omega) (by omega)),own_nat (by omega),u 6 i (by omega),hl i q]
     have:own_pq g n i=g 6 i:=by unfold own_pq;rw[if_pos q]
     rw[←this];exact e'
    ·rw[if_neg (fun z=>q ((own_lt (by omega) (by omega)).mp z)),u 0 5 (by omega),h5]
     have:own_pq g n i=g 26 0:=by unfold own_pq;rw[if_neg q]
     rw[←this];exact e'
   ·rcases R with⟨a,b⟩ | ⟨q0,f,a,b,c,d⟩ | ⟨a6,a4,q0,a,b,c,d,e,k⟩
    ·exact Or.inl ⟨a,b⟩
    ·refine Or.inr (Or.inl ⟨q0,f,?_,by rw[ec 13 (by omega) (by omega)];exact b,c,by rw[d,ec 14 (by omega) (by omega)],fun q z=>?_⟩)
     ·rw[own_wke (ec 3 (by omega) (by omega)) (ec 4 (by omega) (by omega)) (ec 12 (by omega) (by omega))];exact a
     ·rw[ec 3 (by omega) (by omega),u 3 i (by omega)] at z
      rw[ec 12 (by omega) (by omega),u 12 i (by omega)];exact zm q z
    ·refine Or.inr (Or.inr ⟨q0,a,by rw[ec 3 (by omega) (by omega)];exact b,by rw[ec 4 (by omega) (by omega)];exact c,by rw[ec 13 (by omega) (by omega)];exact d,e,by rw[k,ec 14 (by omega) (by omega)],fun q=>?_⟩)
     rw[ec 3 (by omega) (by omega),u 3 i (by omega)];exact z4 a4 q
  rw[h4]
  by_cases q:i<n
  ·rw[if_pos ((own_lt (by omega) (by omega)).mpr q),if_pos (show Int32.ofNat i<32 from (own_lt (a:=i) (b:=32) (by omega) (by decide)).mpr (by omega)),if_pos (own_inb (by omega) (by omega))]
   by_cases k16:S 3 i=16
   ·rw[if_pos k16,e1_60_97 hf1,if_neg (by decide),if_pos (own_inb (by omega) (by omega)),own_nat (by omega),u 12 i (by omega)]
    by_cases wm:(S 12 i>>>(Int32.ofNat v&&&31))&&&1=0
    ·rw[if_pos wm];exact tail 1 (fun h=>absurd h (by decide)) fun _ _=>(own_b01 _ (by omega)).mp wm
    ·rw[if_neg wm];exact⟨U,rfl,u,fun _=>Or.inl ⟨u17,u18⟩⟩
   ·rw[if_neg k16,e1_60_96 hf1,e1_60_97 hf1,if_pos rfl]
    exact tail 0 (fun _ _=>k16) fun _ h=>absurd h k16
  ·rw[if_neg (fun z=>q ((own_lt (by omega) (by omega)).mp z)),e1_60_96 hf1,e1_60_97 hf1,if_pos rfl]
   exact tail 0 (fun _ h=>absurd h q) fun h=>absurd h q
theorem own_blG(hf1:Fx f1){n:Nat}(hn:n≤30){g:Nat→Nat→Option Nat}{S:MS}(h4:S 0 4=Int32.ofNat n)(h5:S 0 5=own_on (g 26 0))(T:own_Tr n 0 (S 3) g)(hl:∀s,s<n→S 6 s=own_on (g 6 s)){i:Nat}(hi:i≤n):∀(f v:Nat),v+f=8→∀U:MS,own_LL (i*8+v) n g S U→∃S',f1 (59,18,[.ref 0,.int (Int32.ofNat i),.int (Int32.ofNat v)],[],U)=f1 (59,2,[.ref 0,.int (Int32.ofNat (i+1))],[],S')∧own_LL (i*8+8) n g S S'
 |0,v,h,U,hU=>by
  have:v=8:=by omega
  subst this
  rw[e1_59_18 hf1,if_neg (by decide),own_add1]
  exact⟨U,rfl,hU⟩
 |f+1,v,h,U,hU=>by
  have k:∀c,c≠17→c≠18→∀j,U c j=S c j:=hU.1
  have k3:U 3=S 3:=funext (k 3 (by decide) (by decide))
  obtain⟨S1,e1,F,D⟩:=own_loH hf1 hn (S:=U) (g:=g) ((k 0 (by decide) (by decide) 4).trans h4) ((k 0 (by decide) (by decide) 5).trans h5) (by rw[k3];exact T) (fun s hs=>(k 6 (by decide) (by decide) s).trans (hl s hs)) hi (v:=v) (by omega)
  rw[e1_59_18 hf1,if_pos (show Int32.ofNat v<8 from (own_lt (a:=v) (b:=8) (by omega) (by decide)).mpr (by omega)),e1];simp only[Option.bind_some,Option.toList_some,Option.toList_none,List.cons_append,List.nil_append,List.append_nil]
  rw[e1_59_30 hf1,own_add1]
  refine own_blG hf1 hn h4 h5 T hl hi f (v+1) (by omega) S1 ⟨fun c a b j=>(F c j (by omega)).trans (k c a b j),fun j w h1 h2 h3 hb=>?_⟩
  by_cases q:j=i∧w=v
  ·rw[q.1,q.2]
   exact D (by rw[k 15 (by decide) (by decide),←q.1,←q.2];exact hb)
  ·exact own_LCe (hU.2 j w h1 h2 (by omega) hb) (fun c a b k=>F c k (by omega)) (F 17 _ (by omega)) (F 18 _ (by omega))
theorem own_bliG(hf1:Fx f1){n:Nat}(hn:n≤30){g:Nat→Nat→Option Nat}{S:MS}(h4:S 0 4=Int32.ofNat n)(h5:S 0 5=own_on (g 26 0))(T:own_Tr n 0 (S 3) g)(hl:∀s,s<n→S 6 s=own_on (g 6 s)):∀(f i:Nat),i+f=n+1→∀U:MS,own_LL (i*8) n g S U→∃S',f1 (59,2,[.ref 0,.int (Int32.ofNat i)],[],U)=some (none,S')∧own_LL ((n+1)*8) n g S S'
 |0,i,h,U,hU=>by
  have:i=n+1:=by omega
  subst this
  rw[e1_59_2 hf1,hU.1 0 (by decide) (by decide) 4,h4,if_pos ((own_lt (by omega) (by omega)).mpr (by omega))]
  exact⟨U,rfl,hU⟩
 |f+1,i,h,U,hU=>by
  obtain⟨S1,e1,L1⟩:=own_blG hf1 hn h4 h5 T hl (i:=i) (by omega) 8 0 rfl U hU
  rw[e1_59_2 hf1,hU.1 0 (by decide) (by decide) 4,h4,if_neg (fun z=>by have:=(own_lt (by omega) (by omega)).mp z;omega),if_pos (show Int32.ofNat i<40 from (own_lt (a:=i) (b:=40) (by omega) (by decide)).mpr (by omega))]
  rw[show f1 (59,18,[.ref 0,.int (Int32.ofNat i),.int 0],[],U)=_ from e1]
  refine own_bliG hf1 hn h4 h5 T hl f (i+1) (by omega) S1 ?_
  rw[show (i+1)*8=i*8+8 by omega]
  exact L1
theorem own_cbG(hf1:Fx f1)(S:MS):f1 (18,0,[.ref 0],[],S)=some (none,itN (fun j T=>Jvm.OM.upd T 16 j 0) 32 S):=by
 rw[e1_18_0 hf1]
 refine (own_for (H:=fun x T=>f1 (18,2,[.ref 0,.int x],[],T)) (g:=fun j T=>Jvm.OM.upd T 16 j 0) (n:=32) (fun j hj T=>?_) S).trans ?_
 ·show f1 (18,2,[.ref 0,.int (Int32.ofNat j)],[],T)=_
  rw[e1_18_2 hf1,if_pos (show Int32.ofNat j<32 from (own_lt (a:=j) (b:=32) (by omega) (by decide)).mpr hj),if_pos (own_inb (by omega) hj),own_add1,own_nat (by omega)]
 ·show f1 (18,2,[.ref 0,.int (Int32.ofNat 32)],[],_)=_
  rw[e1_18_2 hf1,if_neg (by decide)]
theorem own_cpG(hf1:Fx f1){S:MS}{Its:List (Nat×Nat×List (Int32×Int32))}(h1:S 0 1=0)(h0:1<S 0 0)(hc:(Its.flatMap fun x=>x.2.2).length≤96)(h3:S 0 3=Int32.ofNat (Its.flatMap fun x=>x.2.2).length)(hA:own_tkA S 0 (Its.flatMap fun x=>x.2.2))(hV:own_vl 0 Its 0)(hl:Its.length≤30)(hn:(own_st Its).length≤30):∃U g,f1 (4,0,[.ref 0],[],S)=some (some (.int 1),own_rst U)∧U 0 1=1∧(∀i,i<32→U 16 i=0)∧own_LP (own_st Its) g U∧∀i v,i≤(own_st Its).length→v<8→own_bt (U 15 i) v=true→own_LC U g (own_st Its).length i v:=by
 obtain⟨S1,e1,K1,B1⟩:=own_paG hf1 h0 hc h3 hA hV hl
 obtain⟨S2,g,e2,K2,L2⟩:=own_lkG hf1 hn B1
 obtain⟨S3,e3,L3,l3⟩:=own_bliG hf1 hn (S:=S2) (g:=g) L2.1.1 L2.1.2 L2.2.1 (fun s hs=>L2.2.2.1 6 (by decide) (by decide) s hs) ((own_st Its).length+1) 0 (by omega) S2 ⟨fun _ _ _ _=>rfl,fun i v _ _ h=>absurd h (by omega)⟩
 rw[e1_4_0 hf1,if_pos h1,e1];simp only[Option.bind_some,Option.toList_some,Option.toList_none,List.cons_append,List.nil_append,List.append_nil]
 rw[e1_4_13 hf1,if_pos (by decide),e2];simp only[Option.bind_some,Option.toList_some,Option.toList_none,List.cons_append,List.nil_append,List.append_nil]
 rw[e1_4_39 hf1,e1_59_0 hf1,show f1 (59,2,[.ref 0,.int 0],[],S2)=_ from e3];simp only[Option.bind_some,Option.toList_some,Option.toList_none,List.cons_append,List.nil_append,List.append_nil]
 rw[e1_4_43 hf1,own_cbG hf1];simp only[Option.bind_some,Option.toList_some,Option.toList_none,List.cons_append,List.nil_append,List.append_nil]
 have k:∀c i,c≠16→itN (fun j T=>Jvm.OM.upd T 16 j 0) 32 S3 c i=S3 c i:=fun c i hc=>by rw[own_fill,if_neg (by omega)]
 have k16:∀i,i<32→itN (fun j T=>Jvm.OM.upd T 16 j 0) 32 S3 16 i=0:=fun i hi=>by rw[own_fill,if_pos ⟨rfl,hi⟩]
 generalize itN (fun j T=>Jvm.OM.upd T 16 j 0) 32 S3=V at k k16
 rw[e1_4_47 hf1,own_rsF hf1];simp only[Option.bind_some,Option.toList_some,Option.toList_none,List.cons_append,List.nil_append,List.append_nil]
 rw[e1_4_61 hf1]
 have vc:∀c,c≠16→c≠17→c≠18→∀i,V c i=S2 c i:=fun c a b d i=>(k c i a).trans (L3 c b d i)
 have v0:∀i,V 0 i=S2 0 i:=vc 0 (by decide) (by decide) (by decide)
 refine⟨Jvm.OM.upd (Jvm.OM.upd V 0 2 (-1)) 0 1 1,g,rfl,rfl,fun i hi=>?_,own_LPe L2 ?_ ?_ ?_ (fun c hc i=>?_),fun i v hi hv hb=>?_⟩
 ·rw[own_ne (by omega),own_ne (by omega)];exact k16 i hi
 ·rw[own_ne (by omega),own_ne (by omega)];exact v0 4
 ·rw[own_ne (by omega),own_ne (by omega)];exact v0 5
 ·rw[own_ne (by omega),own_ne (by omega)];exact v0 6
 ·rw[own_ne (by omega),own_ne (by omega)];exact vc c (by omega) (by omega) (by omega) i
 ·rw[own_ne (by omega),own_ne (by omega),vc 15 (by decide) (by decide) (by decide)] at hb
  refine own_LCe (l3 i v hi hv (by omega) hb) (fun c a b j=>?_) ?_ ?_
  ·rw[own_ne (by omega),own_ne (by omega)];exact k c j (by omega)
  ·rw[own_ne (by omega),own_ne (by omega)];exact k 17 _ (by omega)
  ·rw[own_ne (by omega),own_ne (by omega)];exact k 18 _ (by omega)
end F2
theorem own_ofi{a c:Nat}(ha:a<100)(hc:c<100)(e:Int32.ofNat a=Int32.ofNat c):a=c:=by
 have e':=congrArg Int32.toInt e
 rw[own_toInt_ofNat (by omega),own_toInt_ofNat (by omega)] at e'
 omega
theorem own_exA{S:MS}{p n:Nat}(hp:p<n)(hn:n≤1000)(h6:S 0 6=Int32.ofNat n)(h:S 19 p=8)(f:Nat):own_ex (f+1) (Int32.ofNat p) S=(S 21 p,S):=by
 rw[own_ex,if_neg (own_nneg (by omega)),h6,if_pos ((own_lt (by omega) (by omega)).mpr hp),if_pos (show Int32.ofNat p<1024 from (own_lt (a:=p) (b:=1024) (by omega) (by decide)).mpr (by omega)),own_nat (by omega),if_pos h]
theorem own_exB{S:MS}{p n:Nat}(hp:p<n)(hn:n≤1000)(h6:S 0 6=Int32.ofNat n)(h8:¬S 19 p=8)(h9:¬S 19 p=9)(h10:¬S 19 p=10)(f:Nat):own_ex (f+1) (Int32.ofNat p) S=own_ex f (Int32.ofNat (p+1)) (own_xi S (S 19 p) (S 20 p) (S 21 p) (S 22 p)):=by
 rw[own_ex,if_neg (own_nneg (by omega)),h6,if_pos ((own_lt (by omega) (by omega)).mpr hp),if_pos (show Int32.ofNat p<1024 from (own_lt (a:=p) (b:=1024) (by omega) (by decide)).mpr (by omega)),own_nat (by omega),if_neg h8,if_neg h9,if_neg h10,own_add1]
theorem own_exC{S:MS}{p n:Nat}(hp:p<n)(hn:n≤1000)(h6:S 0 6=Int32.ofNat n)(h:S 19 p=9∨S 19 p=10)(f:Nat):own_ex (f+1) (Int32.ofNat p) S=(S 21 p,S)∨own_ex (f+1) (Int32.ofNat p) S=(S 22 p,S):=by
 rw[own_ex,if_neg (own_nneg (by omega)),h6,if_pos ((own_lt (by omega) (by omega)).mpr hp),if_pos (show Int32.ofNat p<1024 from (own_lt (a:=p) (b:=1024) (by omega) (by decide)).mpr (by omega)),own_nat (by omega)]
 rcases h with h | h
 ·rw[if_neg (by rw[h];decide),if_pos h]
  split
  ·exact Or.inr rfl
  ·exact Or.inl rfl
 ·rw[if_neg (by rw[h];decide),if_neg (by rw[h];decide),if_pos h]
  split
  ·exact Or.inr rfl
  ·exact Or.inl rfl
theorem own_xiR(S:MS){o:Int32}(ho:own_ro o)(a b c:Int32):∀k i,k≠24→own_xi S o a b c k i=S k i:=fun k i hk=>by
 unfold own_xi
 rcases ho with rfl | rfl | rfl
 ·rw[if_neg (by decide),if_pos rfl];exact own_ne (fun h=>hk h.1)
 ·rw[if_neg (by decide),if_neg (by decide),if_neg (by decide),if_neg (by decide),if_pos rfl];exact own_ne (fun h=>hk h.1)
 ·rw[if_neg (by decide),if_neg (by decide),if_neg (by decide),if_neg (by decide),if_neg (by decide),if_pos rfl];exact own_ne (fun h=>hk h.1)
theorem own_exJ{n:Nat}(hn:n≤1000):∀(m p:Nat) (S:MS),p+m<n→S 0 6=Int32.ofNat n→(∀j,j<m→own_ro (S 19 (p+j)))→∀f,∃T,own_ex (f+m) (Int32.ofNat p) S=own_ex f (Int32.ofNat (p+m)) T∧∀c i,c≠24→T c i=S c i
 |0,p,S,_,_,_,f=>⟨S,rfl,fun _ _ _=>rfl⟩
 |m+1,p,S,hp,h6,hj,f=>by
  have h0:=hj 0 (by omega)
  rw[Nat.add_zero] at h0
  have n8:¬S 19 p=8:=by rcases h0 with h | h | h<;>rw[h]<;>decide
  have n9:¬S 19 p=9:=by rcases h0 with h | h | h<;>rw[h]<;>decide
  have n10:¬S 19 p=10:=by rcases h0 with h | h | h<;>rw[h]<;>decide
  have k:=own_xiR S h0 (S 20 p) (S 21 p) (S 22 p)
  obtain⟨T,e,F⟩:=own_exJ hn m (p+1) (own_xi S (S 19 p) (S 20 p) (S 21 p) (S 22 p)) (by omega) ((k 0 6 (by decide)).trans h6) (fun j l=>by
   rw[k 19 _ (by decide),show p+1+j=p+(j+1) by omega]
   exact hj (j+1) (by omega)) f
  refine⟨T,?_,fun c i h=>(F c i h).trans (k c i h)⟩
  rw[show f+(m+1)=(f+m)+1 by omega,own_exB (n:=n) (by omega) hn h6 n8 n9 n10,e,show p+1+m=p+(m+1) by omega]
theorem own_sto9(S:MS){a:Nat}(ha:a<8)(v:Int32):own_sto S (Int32.ofNat a) v=Jvm.OM.upd (Jvm.OM.upd (Jvm.OM.upd S 23 a v) 0 9 (Int32.ofNat a)) 0 10 v:=by
 rw[own_sto,if_neg (own_nneg (by omega)),if_pos (show Int32.ofNat a<128 from (own_lt (a:=a) (b:=128) (by omega) (by decide)).mpr (by omega)),if_pos (show Int32.ofNat a<8 from (own_lt (a:=a) (b:=8) (by omega) (by decide)).mpr ha),own_nat (by omega)]
theorem own_stA{ks:List (Nat×Nat)}(hn:ks.length≤30){g:Nat→Nat→Option Nat}{S:MS}(L:own_LP ks g S){s v:Nat}(hs:s<ks.length)(hk:ks.getD s (0,0)=(2,v))(h7:S 0 7=Int32.ofNat s):S 3 s=2∧S 4 s=Int32.ofNat v∧v<8∧∃val,own_stp S 0 7=own_sr (own_suc (S 3) g 33 s)∧own_stp S 0 9=Int32.ofNat v∧own_stp S 0 10=val∧own_stp S 23 v=val∧(∀i,i≠v→own_stp S 23 i=S 23 i)∧(S 13 s=2→val=S 14 s)∧(S 13 s=3→own_stp S 24 (S 14 s&&&7).toNatClampNeg=val):=by
 obtain⟨⟨h4,-⟩,-,-,⟨P,p6,pl,pm,ps⟩,-⟩:=L
 obtain⟨sc,tg⟩:=ps s hs
 rw[hk] at sc
 obtain⟨k3,k4,k8,m,m3,hq,h9,h10,hj,a,b,c,d⟩:=sc.1 rfl
 have pn:=pm (s+1) ks.length (by omega) (Nat.le_refl _)
 obtain⟨T,eT,F⟩:=own_exJ (n:=P ks.length) (by omega) m (P s) S (by omega) p6 hj (1024-m)
 have t6:T 0 6=Int32.ofNat (P ks.length):=(F 0 6 (by decide)).trans p6
 have t19:T 19 (P s+m)=S 19 (P s+m):=F 19 _ (by decide)
 have o34:S 19 (P s+m)=4∨S 19 (P s+m)=3:=by rcases d with⟨h,-⟩ | ⟨h,-⟩;exact Or.inl h;exact Or.inr h
 have n8:¬T 19 (P s+m)=8:=by rw[t19];rcases o34 with h | h<;>rw[h]<;>decide
 have n9:¬T 19 (P s+m)=9:=by rw[t19];rcases o34 with h | h<;>rw[h]<;>decide
 have n10:¬T 19 (P s+m)=10:=by rw[t19];rcases o34 with h | h<;>rw[h]<;>decide
 have st:∃val,own_xi T (T 19 (P s+m)) (T 20 (P s+m)) (T 21 (P s+m)) (T 22 (P s+m))=Jvm.OM.upd (Jvm.OM.upd (Jvm.OM.upd T 23 v val) 0 9 (Int32.ofNat v)) 0 10 val∧(S 13 s=2→val=S 14 s)∧(S 13 s=3→T 24 (S 14 s&&&7).toNatClampNeg=val):=by
  rw[t19,(F 20 _ (by decide)).trans a,F 21 _ (by decide),←c]
  rcases d with⟨o,r⟩ | ⟨o,r⟩
  ·refine⟨S 14 s,?_,fun _=>rfl,fun h=>by rw[r] at h;exact absurd h (by decide)⟩
   rw[o,own_xi,if_neg (by decide),if_neg (by decide),if_neg (by decide),if_pos rfl]
   exact own_sto9 T k8 _
  ·refine⟨T 24 (S 14 s&&&7).toNatClampNeg,?_,fun h=>by rw[r] at h;exact absurd h (by decide),fun _=>rfl⟩
   rw[o,own_xi,if_neg (by decide),if_neg (by decide),if_pos rfl]
   exact own_sto9 T k8 _
 obtain⟨val,ev,hv1,hv2⟩:=st
 generalize hV:Jvm.OM.upd (Jvm.OM.upd (Jvm.OM.upd T 23 v val) 0 9 (Int32.ofNat v)) 0 10 val=V at ev
 have vc:∀c i,19≤c→c≤22→V c i=S c i:=fun c i h h'=>by
  rw[←hV,own_ne (by omega),own_ne (by omega),own_ne (by omega)];exact F c i (by omega)
 have v6:V 0 6=Int32.ofNat (P ks.length):=by rw[←hV];exact t6
 have es:own_es S (S 0 7)=(own_sr (own_suc (S 3) g 33 s),V):=by
  rw[own_es,h7,if_neg (own_nneg (by omega)),h4,if_pos ((own_lt (by omega) (by omega)).mpr hs),if_pos (show Int32.ofNat s<32 from (own_lt (a:=s) (b:=32) (by omega) (by decide)).mpr (by omega)),own_nat (by omega),h9,show 1024=(1024-m)+m by omega,eT,show 1024-m=(1022-m+1)+1 by omega,own_exB (n:=P ks.length) (by omega) (by omega) t6 n8 n9 n10,ev,own_exA (n:=P ks.length) (by omega) (by omega) v6 ((vc 19 _ (by decide) (by decide)).trans b),vc 21 _ (by decide) (by decide)]
  rw[show P s+m+1=P (s+1)-1 by omega,tg.1 k3]
 refine⟨k3,k4,k8,val,?_⟩
 unfold own_stp
 rw[es]
 refine⟨rfl,?_,?_,?_,fun i hi=>?_,hv1,fun h=>?_⟩
 ·show V 0 9=_;rw[←hV];rfl
 ·show V 0 10=_;rw[←hV];rfl
 ·show V 23 v=_;rw[←hV,own_ne (by omega),own_ne (by omega),own_up,if_pos ⟨rfl,rfl⟩]
 ·show V 23 i=_;rw[←hV,own_ne (by omega),own_ne (by omega),own_ne (fun h=>hi h.2)];exact F 23 i (by decide)
 ·show V 24 _=_;rw[←hV,own_ne (by omega),own_ne (by omega),own_ne (by omega)];exact hv2 h
theorem own_stC{ks:List (Nat×Nat)}(hn:ks.length≤30){g:Nat→Nat→Option Nat}{S:MS}(L:own_LP ks g S){s:Nat}(hs:s<ks.length)(hk:(ks.getD s (0,0)).1≠2)(h7:S 0 7=Int32.ofNat s):S 3 s≠2∧(∀i,own_stp S 23 i=S 23 i)∧(own_stp S 0 7=own_sr (own_suc (S 3) g 33 s)∨(∃u,g 8 s=some u∧own_stp S 0 7=Int32.ofNat u)∨(S 3 s=16∧own_stp S 0 7=Int32.ofNat s)):=by
 obtain⟨⟨h4,-⟩,-,-,⟨P,p6,pl,pm,ps⟩,-⟩:=L
 obtain⟨sc,tg⟩:=ps s hs
 obtain⟨k3,m,m3,hq,h9,h10,hj,a⟩:=sc.2 hk
 have k2:S 3 s≠2:=by rcases k3 with h | h<;>rw[h]<;>decide
 have pn:=pm (s+1) ks.length (by omega) (Nat.le_refl _)
 obtain⟨T,eT,F⟩:=own_exJ (n:=P ks.length) (by omega) m (P s) S (by omega) p6 hj (1024-m)
 have t6:T 0 6=Int32.ofNat (P ks.length):=(F 0 6 (by decide)).trans p6
 have es:own_es S (S 0 7)=(S 21 (P s+m),T)∨own_es S (S 0 7)=(S 22 (P s+m),T):=by
  rw[own_es,h7,if_neg (own_nneg (by omega)),h4,if_pos ((own_lt (by omega) (by omega)).mpr hs),if_pos (show Int32.ofNat s<32 from (own_lt (a:=s) (b:=32) (by omega) (by decide)).mpr (by omega)),own_nat (by omega),h9,show 1024=(1024-m)+m by omega,eT,show 1024-m=(1023-m)+1 by omega]
  have:=own_exC (S:=T) (p:=P s+m) (n:=P ks.length) (by omega) (by omega) t6 (by rw[F 19 _ (by decide)];exact a) (1023-m)
  rw[F 21 _ (by decide),F 22 _ (by decide)] at this
  exact this
 rw[show P s+m=P (s+1)-1 by omega] at es
 obtain⟨g22,g21⟩:=tg.2 k2
 refine⟨k2,?_,?_⟩
 ·unfold own_stp
  intro i
  rcases es with es | es<;>rw[es]<;>exact F 23 i (by decide)
 ·unfold own_stp
  rcases es with es | es
  ·rw[es]
   show S 21 _=_∨(∃u,g 8 s=some u∧S 21 _=Int32.ofNat u)∨(S 3 s=16∧S 21 _=_)
   rcases g21 with⟨u,e,h⟩ | ⟨e,h⟩ | h
   ·exact Or.inr (Or.inl ⟨u,e,h⟩)
   ·exact Or.inr (Or.inr ⟨e,h⟩)
   ·exact Or.inl h
  ·rw[es];exact Or.inl g22
def own_pz(g:Nat→Nat→Option Nat):Option Nat→Option Nat
 |some s=>g 6 s
 |none=>g 26 0
def own_df(S:MS)(n:Nat):Option Nat→Int32
 |some s=>S 15 s
 |none=>S 15 n
def own_ua(g:Nat→Nat→Option Nat):Nat→Nat→Option Nat
 |0,s=>some s
 |k+1,s=>(g 5 s).bind (own_ua g k)
def own_GG(g:Nat→Nat→Option Nat)(n:Nat)(S:MS)(mk:Nat→Bool)(i:Option Nat):Prop:=
 (∀f v q0,v<8→own_wk S g f (own_pz g i) v=some q0→(∀s,i=some s→S 3 s=16→own_bt (S 12 s) v=false)→S 13 q0=2→S 23 v=S 14 q0) ∧
 (∀s k a f v q0,v<8→i=some s→own_ua g (k+1) s=some a→own_bt (S 12 a) v=false→own_wk S g f (g 6 a) v=some q0→S 13 q0=2→S 23 v=S 14 q0) ∧
 (∀q v,v<8→own_pz g i=some q→S 3 q=2→S 4 q=Int32.ofNat v→(∀s,i=some s→S 3 s≠16)→S 13 q=3→S 24 (S 14 q&&&7).toNatClampNeg=S 23 v) ∧
 ∀v,v<8→own_bt (own_df S n i) v=true→mk v=true
theorem own_dfp{n:Nat}{S:MS}{g:Nat→Nat→Option Nat}(T:own_Tr n 0 (S 3) g)(hd:∀t,t<n→S 15 t=own_dv S (g 6 t) (g 5 t)){p v:Nat}:∀f s,s<f→s<n→g 5 s=some p→own_bt (S 15 p) v=true→own_bt (S 15 s) v=true
 |0,s,h,_,_,_=>absurd h (Nat.not_lt_zero _)
 |f+1,s,h,hs,h5,hb=>by
  have e:=hd s hs
  cases g6:g 6 s with
  |some q=>
   obtain⟨q1,q2,-⟩:=(T.2.2.2.2 s hs).2.1 q g6
   have:=own_dfp T hd f q (by omega) (by omega) (by rw[q2];exact h5) hb
   rw[g6] at e
   have e':S 15 s=S 15 q|||own_bx S q:=e
   rw[e',own_bto,this,Bool.true_or]
  |none=>
   rw[g6,h5] at e
   have e':S 15 s=S 15 p:=e
   rw[e'];exact hb
theorem own_lv2{n:Nat}{S:MS}{g:Nat→Nat→Option Nat}{mk:Nat→Bool}(T:own_Tr n 0 (S 3) g)(hd:∀t,t<n→S 15 t=own_dv S (g 6 t) (g 5 t))(hd':S 15 n=own_dv S (g 26 0) none):∀f s,s<n→s<f→(∀v,v<8→S 3 s=2→S 4 s=Int32.ofNat v→S 13 s=2→S 23 v=S 14 s)→(∀v,v<8→S 3 s=2→S 4 s=Int32.ofNat v→S 13 s=3→S 24 (S 14 s&&&7).toNatClampNeg=S 23 v)→(∀f v q0,v<8→own_wk S g f (g 6 s) v=some q0→own_bt (S 12 s) v=false→S 13 q0=2→S 23 v=S 14 q0)→(∀k a f v q0,v<8→own_ua g (k+1) s=some a→own_bt (S 12 a) v=false→own_wk S g f (g 6 a) v=some q0→S 13 q0=2→S 23 v=S 14 q0)→(∀v,v<8→own_bt (S 15 s|||own_bx S s) v=true→mk v=true)→own_GG g n S mk (own_suc (S 3) g f s)∧∀t,own_suc (S 3) g f s=some t→t<n
 |0,s,_,h,_,_,_,_,_=>absurd h (Nat.not_lt_zero _)
 |f+1,s,hs,hf,x0,x0r,x1,x2,xd=>by
  obtain⟨t1,t2,t3,t4,t5⟩:=T.2.2.2.2 s hs
  have chain:∀f v q0,v<8→own_wk S g f (some s) v=some q0→S 13 q0=2→S 23 v=S 14 q0:=fun f v q0 hv hw hc=>by
   cases f with
   |zero=>exact absurd hw (by simp[own_wk])
   |succ f=>
    rw[own_wk] at hw
    by_cases z:S 3 s=2∧S 4 s=Int32.ofNat v
    ·rw[if_pos z] at hw
     have:=Option.some.inj hw
     subst this
     exact x0 v hv z.1 z.2 hc
    ·rw[if_neg z] at hw
     by_cases b:own_bt (S 12 s) v=true
     ·rw[if_pos b] at hw;exact absurd hw (by simp)
     ·rw[if_neg b] at hw
      exact x1 f v q0 hv hw (by rw[Bool.not_eq_true] at b;exact b) hc
  cases g7:g 7 s with
  |some t=>
   rw[own_sucA g7]
   obtain⟨ht,g6⟩:=t3 t g7
   have g5:=((T.2.2.2.2 t ht).2.1 s g6).2.1
   have pz:own_pz g (some t)=some s:=g6
   refine⟨⟨fun f v q0 hv hw _ hc=>?_,fun t' k a f v q0 hv et ha hb hw hc=>?_,fun q v hv hq h3 h4 _ h13=>?_,fun v hv hb=>?_⟩,fun t' e=>by rw[←Option.some.inj e];exact ht⟩
   ·rw[pz] at hw;exact chain f v q0 hv hw hc
   ·have:=Option.some.inj et
    subst this
    refine x2 k a f v q0 hv ?_ hb hw hc
    have e:own_ua g (k+1) t=own_ua g (k+1) s:=by show (g 5 t).bind _=(g 5 s).bind _;rw[g5]
    rw[←e];exact ha
   ·rw[pz] at hq
    have:=Option.some.inj hq
    subst this
    exact x0r v hv h3 h4 h13
   ·have e:=hd t ht
    rw[g6] at e
    have e':S 15 t=S 15 s|||own_bx S s:=e
    have hb':own_bt (S 15 t) v=true:=hb
    rw[e'] at hb';exact xd v hv hb'
  |none=>
   cases g5:g 5 s with
   |none=>
    rw[own_sucB g7 g5]
    have g26:=t5 g5 g7
    have pz:own_pz g none=some s:=g26
    refine⟨⟨fun f v q0 hv hw _ hc=>?_,fun t' k a f v q0 hv et=>absurd et (by simp),fun q v hv hq h3 h4 _ h13=>?_,fun v hv hb=>?_⟩,fun t' e=>absurd e (by simp)⟩
    ·rw[pz] at hw;exact chain f v q0 hv hw hc
    ·rw[pz] at hq
     have:=Option.some.inj hq
     subst this
     exact x0r v hv h3 h4 h13
    ·have e:=hd'
     rw[g26] at e
     have e':S 15 n=S 15 s|||own_bx S s:=e
     have hb':own_bt (S 15 n) v=true:=hb
     rw[e'] at hb';exact xd v hv hb'
   |some p=>
    obtain⟨ps,pk⟩:=t1 p g5
    have up:∀k,own_ua g (k+1) s=own_ua g k p:=fun k=>by show (g 5 s).bind _=_;rw[g5];rfl
    have dp:∀v,v<8→own_bt (S 15 p) v=true→mk v=true:=fun v hv hb=>xd v hv (by rw[own_bto,own_dfp T hd (s+1) s (Nat.lt_succ_self s) hs g5 hb,Bool.true_or])
    rw[own_sucC g7 g5]
    by_cases k16:S 3 p=16
    ·rw[if_pos k16]
     refine⟨⟨fun f v q0 hv hw hm hc=>?_,fun t' k a f v q0 hv et ha hb hw hc=>?_,fun q v hv hq h3 h4 h16 h13=>absurd k16 (h16 p rfl),fun v hv hb=>dp v hv hb⟩,fun t' e=>by rw[←Option.some.inj e];omega⟩
     ·exact x2 0 p f v q0 hv (up 0) (hm p rfl k16) hw hc
     ·have:=Option.some.inj et
      subst this
      exact x2 (k+1) a f v q0 hv (by rw[up];exact ha) hb hw hc
    ·rw[if_neg k16]
     have bx0:own_bx S p=0:=by unfold own_bx;rw[if_neg pk]
     exact own_lv2 T hd hd' f p (by omega) (by omega) (fun v _ h=>absurd h pk) (fun v _ h=>absurd h pk) (fun f v q0 hv hw hb hc=>x2 0 p f v q0 hv (up 0) hb hw hc) (fun k a f v q0 hv ha hb hw hc=>x2 (k+1) a f v q0 hv (by rw[up];exact ha) hb hw hc) fun v hv hb=>dp v hv (by rw[bx0,own_bto,(own_bz 0).mp rfl,Bool.or_false] at hb;exact hb)
theorem own_uam{n:Nat}{S:MS}{g:Nat→Nat→Option Nat}(T:own_Tr n 0 (S 3) g)(hm:∀t,t<n→own_MK S g t){v:Nat}:∀k s a,s<n→own_ua g k s=some a→own_bt (S 12 s) v=true→own_bt (S 12 a) v=true
 |0,s,a,_,h,hb=>by
  have e:some s=some a:=h
  rw[←Option.some.inj e];exact hb
 |k+1,s,a,hs,h,hb=>by
  have h':(g 5 s).bind (own_ua g k)=some a:=h
  cases g5:g 5 s with
  |none=>rw[g5] at h';exact absurd h' (by simp)
  |some p=>
   rw[g5] at h'
   have:=((T.2.2.2.2 s hs).1 p g5).1
   exact own_uam T hm k p a (by omega) h' ((hm s hs).2 p g5 v hb)
def own_RT(ks:List (Nat×Nat))(g:Nat→Nat→Option Nat)(mk:Nat→Bool)(S:MS):Prop:=own_LP ks g S∧(∀i v,i≤ks.length→v<8→own_bt (S 15 i) v=true→own_LC S g ks.length i v)∧(S 0 1=1∧∀i,i<32→S 16 i=0)∧∃i,S 0 7=own_sr i∧(∀s,i=some s→s<ks.length)∧own_GG g ks.length S mk i
theorem own_RTf{ks:List (Nat×Nat)}{g:Nat→Nat→Option Nat}{S S':MS}(L:own_LP ks g S)(C:∀i v,i≤ks.length→v<8→own_bt (S 15 i) v=true→own_LC S g ks.length i v)(R:S 0 1=1∧∀i,i<32→S 16 i=0)(F:own_Fs S S'):own_LP ks g S'∧(∀i v,i≤ks.length→v<8→own_bt (S' 15 i) v=true→own_LC S' g ks.length i v)∧S' 0 1=1∧∀i,i<32→S' 16 i=0:=by
 obtain⟨f0,fc,-,-⟩:=F
 refine⟨own_LPe L (f0 4 (by omega)) (f0 5 (by omega)) (f0 6 (by omega)) (fun c hc i=>fc c (by omega) (by omega) (by omega) i),fun i v hi hv hb=>?_,(f0 1 (by omega)).trans R.1,fun i hi=>(fc 16 (by omega) (by omega) (by omega) i).trans (R.2 i hi)⟩
 rw[fc 15 (by omega) (by omega) (by omega)] at hb
 exact own_LCe (C i v hi hv hb) (fun c a b k=>fc c (by omega) (by omega) (by omega) k) (fc 17 (by omega) (by omega) (by omega) _) (fc 18 (by omega) (by omega) (by omega) _)
theorem own_RTs{ks:List (Nat×Nat)}(hn:ks.length≤30){g:Nat→Nat→Option Nat}{mk:Nat→Bool}{S:MS}(R:own_RT ks g mk S){s:Nat}(hs:s<ks.length)(h7:S 0 7=Int32.ofNat s)(tag:(ks.getD s (0,0)).1=1∨(ks.getD s (0,0)).1=2):((ks.getD s (0,0)).1=1→own_RT ks g mk (own_stp S)∧∀i,own_stp S 23 i=S 23 i)∧((ks.getD s (0,0)).1=2→own_RT ks g (fun w=>mk w||decide (w=(ks.getD s (0,0)).2)) (own_stp S)∧(ks.getD s (0,0)).2<8∧own_stp S 0 9=Int32.ofNat (ks.getD s (0,0)).2∧own_stp S 23 (ks.getD s (0,0)).2=own_stp S 0 10∧∀i,i≠(ks.getD s (0,0)).2→own_stp S 23 i=S 23 i):=by
 obtain⟨L,C,R01,i,e7,hi,G⟩:=R
 have F:=own_Fsp S
 have F0:=F
 obtain⟨L',C',R1',R16'⟩:=own_RTf L C R01 F
 obtain⟨f0,fc,-,-⟩:=F
 have c3:=fc 3 (by omega) (by omega) (by omega)
 have c4:=fc 4 (by omega) (by omega) (by omega)
 have c12:=fc 12 (by omega) (by omega) (by omega)
 have c13:=fc 13 (by omega) (by omega) (by omega)
 have c14:=fc 14 (by omega) (by omega) (by omega)
 have c15:=fc 15 (by omega) (by omega) (by omega)
 have k3:own_stp S 3=S 3:=funext c3
 have wk:∀f q v,own_wk (own_stp S) g f q v=own_wk S g f q v:=own_wke c3 c4 c12
 have bx:∀t,own_bx (own_stp S) t=own_bx S t:=fun t=>by unfold own_bx;rw[c3,c4]
 have is:i=some s:=by
  cases i with
  |none=>rw[e7] at h7;exact absurd h7 (by
    have:∀k:Fin 32,¬(-2:Int32)=Int32.ofNat k.val:=by decide
    exact this ⟨s,by omega⟩)
  |some t=>
   have ht:=hi t rfl
   rw[e7] at h7
   have h7':Int32.ofNat t=Int32.ofNat s:=h7
   rw[own_ofi (by omega) (by omega) h7']
 subst is
 obtain⟨G1,G2,G3,G4⟩:=G
 have T:=L.2.1
 have T':=L'.2.1
 have hm:=L.2.2.2.2.1
 have hd':=L'.2.2.2.2.2
 refine⟨fun t1=>?_,fun t2=>?_⟩
 ·obtain⟨k2,m23,tgt⟩:=own_stC hn L hs (by omega) h7
  refine⟨⟨L',C',⟨R1',R16'⟩,?_⟩,m23⟩
  have bx0:own_bx S s=0:=by unfold own_bx;rw[if_neg k2]
  rcases tgt with h | ⟨u,gu,h⟩ | ⟨k16,h⟩
  ·obtain⟨GG,tl⟩:=own_lv2 (mk:=mk) T' hd'.1 hd'.2 33 s hs (by omega) (fun v _ h=>by rw[c3] at h;exact absurd h k2) (fun v _ h=>by rw[c3] at h;exact absurd h k2) (fun f v q0 hv hw hb hc=>by
    rw[wk] at hw;rw[c12] at hb;rw[c13] at hc
    rw[m23,c14]
    exact G1 f v q0 hv hw (fun s' es _=>by rw[←Option.some.inj es];exact hb) hc) (fun k a f v q0 hv ha hb hw hc=>by
    rw[wk] at hw;rw[c12] at hb;rw[c13] at hc
    rw[m23,c14]
    exact G2 s k a f v q0 hv rfl ha hb hw hc) (fun v hv hb=>by
    rw[c15,bx,bx0,own_bto,(own_bz 0).mp rfl,Bool.or_false] at hb
    exact G4 v hv hb)
   rw[k3] at GG tl
   exact⟨_,h,tl,GG⟩
  ·obtain⟨ul,u5,u6⟩:=(T.2.2.2.2 s hs).2.2.2.1 u gu
   refine⟨some u,h,fun t e=>by rw[←Option.some.inj e];exact ul,fun f v q0 hv hw=>?_,fun t k a f v q0 hv et ha hb hw hc=>?_,fun q v hv hq=>?_,fun v hv hb=>?_⟩
   ·have pz:own_pz g (some u)=none:=u6
    rw[pz] at hw
    cases f with
    |zero=>exact absurd hw (by simp[own_wk])
    |succ f=>exact absurd hw (by simp[own_wk])
   ·have:=Option.some.inj et
    subst this
    rw[wk] at hw;rw[c12] at hb;rw[c13] at hc
    rw[m23,c14]
    have ha':(g 5 u).bind (own_ua g k)=some a:=ha
    rw[u5] at ha'
    have ha2:own_ua g k s=some a:=ha'
    cases k with
    |zero=>
     have es:some s=some a:=ha2
     have:=Option.some.inj es
     subst this
     exact G1 f v q0 hv hw (fun s' es _=>by rw[←Option.some.inj es];exact hb) hc
    |succ k=>exact G2 s k a f v q0 hv rfl ha2 hb hw hc
   ·have pz:own_pz g (some u)=none:=u6
    rw[pz] at hq;exact absurd hq (by simp)
   ·have e:=L.2.2.2.2.2.1 u ul
    rw[u6,u5] at e
    have e':S 15 u=S 15 s:=e
    have hb':own_bt (own_stp S 15 u) v=true:=hb
    rw[c15,e'] at hb'
    exact G4 v hv hb'
  ·refine⟨some s,h,fun t e=>by rw[←Option.some.inj e];exact hs,fun f v q0 hv hw hc h13=>?_,fun t k a f v q0 hv et ha hb hw hc=>?_,fun q v hv hq h3 h4 h16=>?_,fun v hv hb=>?_⟩
   ·rw[wk] at hw;rw[c13] at h13
    rw[m23,c14]
    exact G1 f v q0 hv hw (fun s' es z=>by have:=hc s' es;rw[c3,c12] at this;exact this z) h13
   ·rw[wk] at hw;rw[c12] at hb;rw[c13] at hc
    rw[m23,c14]
    exact G2 t k a f v q0 hv et ha hb hw hc
   ·exact absurd k16 (by have:=h16 s rfl;rw[c3] at this;exact this)
   ·have hb':own_bt (own_stp S 15 s) v=true:=hb
    rw[c15] at hb'
    exact G4 v hv hb'
 ·have hk:ks.getD s (0,0)=(2,(ks.getD s (0,0)).2):=Prod.ext t2 rfl
  obtain⟨s3,s4,v8,val,h,h9,h10,h23,o23,hc2,hr3⟩:=own_stA hn L hs hk h7
  generalize (ks.getD s (0,0)).2=v0 at *
  have vu:∀v,v<8→S 4 s=Int32.ofNat v→v=v0:=fun v hv e=>by rw[s4] at e;exact (own_ofi (by omega) (by omega) e).symm
  have ms:own_bt (S 12 s) v0=true:=(hm s hs).1 v0 (by rw[own_bx8 s3 s4 v8];exact decide_eq_true rfl)
  obtain⟨GG,tl⟩:=own_lv2 (mk:=fun w=>mk w||decide (w=v0)) T' hd'.1 hd'.2 33 s hs (by omega) (fun v hv _ e4 e13=>by
    rw[c4] at e4;rw[c13] at e13
    rw[vu v hv e4,h23,c14];exact hc2 e13) (fun v hv _ e4 e13=>by
    rw[c4] at e4;rw[c13] at e13
    rw[vu v hv e4,h23,c14];exact hr3 e13) (fun f v q0 hv hw hb hc=>by
    rw[wk] at hw;rw[c12] at hb;rw[c13] at hc
    have ne:v≠v0:=fun e=>by rw[e,ms] at hb;exact absurd hb (by decide)
    rw[o23 v ne,c14]
    exact G1 f v q0 hv hw (fun s' es z=>by rw[←Option.some.inj es,s3] at z;exact absurd z (by decide)) hc) (fun k a f v q0 hv ha hb hw hc=>by
    rw[wk] at hw;rw[c12] at hb;rw[c13] at hc
    have ne:v≠v0:=fun e=>by rw[e,own_uam T hm (k+1) s a hs ha ms] at hb;exact absurd hb (by decide)
    rw[o23 v ne,c14]
    exact G2 s k a f v q0 hv rfl ha hb hw hc) (fun v hv hb=>by
    rw[c15,bx,own_bto,Bool.or_eq_true] at hb
    show (mk v||decide (v=v0))=true
    rw[Bool.or_eq_true]
    rcases hb with hb | hb
    ·exact Or.inl (G4 v hv hb)
    ·rw[own_bx8 s3 s4 v8] at hb;exact Or.inr hb)
  rw[k3] at GG tl
  exact⟨⟨L',C',⟨R1',R16'⟩,_,h,tl,GG⟩,v8,h9,h23.trans h10.symm,o23⟩
theorem own_RT0{ks:List (Nat×Nat)}{g:Nat→Nat→Option Nat}{S:MS}(L:own_LP ks g S)(C:∀i v,i≤ks.length→v<8→own_bt (S 15 i) v=true→own_LC S g ks.length i v)(R:S 0 1=1∧∀i,i<32→S 16 i=0)(hn:ks.length≤30):own_RT ks g (fun _=>false) (own_rst S):=by
 obtain⟨L',C',R1',R16'⟩:=own_RTf L C R (own_Fsrs S)
 refine⟨L',C',⟨R1',R16'⟩,?_⟩
 have T:=L'.2.1
 have hd:=L'.2.2.2.2.2
 have nw:∀f v,own_wk (own_rst S) g f none v=none:=fun f v=>by cases f<;>rfl
 have c7:own_rst S 0 7=if 0<S 0 4 then 0 else -2:=rfl
 have c4:S 0 4=Int32.ofNat ks.length:=L.1.1
 by_cases z:ks.length=0
 ·have g26:g 26 0=none:=by
   cases e:g 26 0 with
   |none=>rfl
   |some q=>have:=(T.2.2.2.1 0 (Nat.le_refl _) q e).1;omega
  have pz:own_pz g none=none:=g26
  refine⟨none,?_,fun s e=>absurd e (by simp),fun f v q0 hv hw=>?_,fun s k a f v q0 hv e=>absurd e (by simp),fun q v hv hq=>?_,fun v hv hb=>?_⟩
  ·rw[c7,c4,z,if_neg (by decide)];rfl
  ·rw[pz,nw] at hw;exact absurd hw (by simp)
  ·rw[pz] at hq;exact absurd hq (by simp)
  ·have e:=hd.2
   rw[g26] at e
   have e':own_rst S 15 ks.length=0:=e
   have hb':own_bt (own_rst S 15 ks.length) v=true:=hb
   rw[e',(own_bz 0).mp rfl] at hb';exact absurd hb' (by decide)
 ·obtain⟨t1,t2,-⟩:=T.2.2.2.2 0 (by omega)
  have g6:g 6 0=none:=by
   cases e:g 6 0 with
   |none=>rfl
   |some q=>have:=(t2 q e).1;omega
  have g5:g 5 0=none:=by
   cases e:g 5 0 with
   |none=>rfl
   |some q=>have:=(t1 q e).1;omega
  have pz:own_pz g (some 0)=none:=g6
  refine⟨some 0,?_,fun s e=>by rw[←Option.some.inj e];omega,fun f v q0 hv hw=>?_,fun s k a f v q0 hv e ha=>?_,fun q v hv hq=>?_,fun v hv hb=>?_⟩
  ·rw[c7,c4,if_pos (show (0:Int32)<Int32.ofNat ks.length from (own_lt (a:=0) (by omega) (by omega)).mpr (by omega))];rfl
  ·rw[pz,nw] at hw;exact absurd hw (by simp)
  ·rw[←Option.some.inj e] at ha
   have ha':(g 5 0).bind (own_ua g k)=some a:=ha
   rw[g5] at ha';exact absurd ha' (by simp)
  ·rw[pz] at hq;exact absurd hq (by simp)
  ·have e:=hd.1 0 (by omega)
   rw[g6,g5] at e
   have e':own_rst S 15 0=0:=e
   have hb':own_bt (own_rst S 15 0) v=true:=hb
   rw[e',(own_bz 0).mp rfl] at hb';exact absurd hb' (by decide)
def own_jb(x:Int64)(k:Nat):Bool:=x.toBitVec.getLsbD k
theorem own_k64:∀k:Fin 64,((Int32.ofNat k.val).toInt64&&&63)=Int64.ofNat k.val:=by decide
theorem own_u64:∀k:Fin 64,((Int32.ofNat k.val).toInt64.toUInt64&&&Int64.toUInt64 63)=UInt64.ofNat k.val:=by decide
theorem own_sm64:∀k:Fin 64,((BitVec.ofNat 64 k.val).smod 64).toNat=k.val:=by decide
theorem own_um64:∀k:Fin 64,((UInt64.ofNat k.val).toBitVec%64).toNat=k.val:=by decide
theorem own_jsh{x:Int64}{k i:Nat}(hk:k<64):own_jb (x<<<((Int32.ofNat k).toInt64&&&63)) i=(decide (i<64) && !decide (i<k)&&own_jb x (i-k)):=by
 rw[own_k64 ⟨k,hk⟩]
 unfold own_jb
 rw[Int64.toBitVec_shiftLeft,BitVec.shiftLeft_eq',show (Int64.ofNat k).toBitVec=BitVec.ofNat 64 k from rfl,own_sm64 ⟨k,hk⟩,BitVec.getLsbD_shiftLeft]
theorem own_ush{x:Int64}{k i:Nat}(hk:k<64):own_jb (XT.ushrL x (Int32.ofNat k)) i=own_jb x (k+i):=by
 unfold XT.ushrL
 rw[own_u64 ⟨k,hk⟩]
 show ((x.toUInt64>>>UInt64.ofNat k).toBitVec).getLsbD i=_
 rw[UInt64.toBitVec_shiftRight,BitVec.ushiftRight_eq',own_um64 ⟨k,hk⟩,BitVec.getLsbD_ushiftRight]
 rfl
theorem own_jand(x y:Int64)(i:Nat):own_jb (x&&&y) i=(own_jb x i&&own_jb y i):=by unfold own_jb;rw[Int64.toBitVec_and,BitVec.getLsbD_and]
def own_ix(n:Nat):Option Nat→Nat
 |some s=>s
 |none=>n
def own_av(b:Bool):Int32:=if b=true then 1 else 0
section H2
variable {f1:FT1}
theorem own_siG(hf1:Fx f1){ks:List (Nat×Nat)}(hn:ks.length≤30){S:MS}(h4:S 0 4=Int32.ofNat ks.length){i:Option Nat}(h7:S 0 7=own_sr i)(hi:∀s,i=some s→s<ks.length):f1 (21,0,[.ref 0],[],S)=some (some (.int (Int32.ofNat (own_ix ks.length i))),S):=by
 rw[e1_21_0 hf1,h7,h4]
 cases i with
 |none=>rw[if_pos (by decide)];rfl
 |some s=>
  have:=hi s rfl
  have e:own_sr (some s)=Int32.ofNat s:=rfl
  rw[e,if_neg (own_nneg (by omega)),if_pos ((own_lt (by omega) (by omega)).mpr this)];rfl
theorem own_dfi(hf1:Fx f1){n:Nat}(S:MS)(i:Option Nat):own_df S n i=S 15 (own_ix n i):=by cases i<;>rfl
theorem own_avG(hf1:Fx f1){ks:List (Nat×Nat)}(hn:ks.length≤30){S:MS}(h4:S 0 4=Int32.ofNat ks.length)(h1:S 0 1=1){i:Option Nat}(h7:S 0 7=own_sr i)(hi:∀s,i=some s→s<ks.length){v:Nat}(hv:v<8):f1 (13,0,[.ref 0,.int (Int32.ofNat v)],[],S)=some (some (.int (own_av (own_bt (own_df S ks.length i) v))),S):=by
 have ix:own_ix ks.length i≤ks.length:=by
  cases i with
  |none=>exact Nat.le_refl _
  |some s=>exact Nat.le_of_lt (hi s rfl)
 rw[e1_13_0 hf1,if_neg (by rw[h1];decide),if_neg (own_nneg (by omega)),if_pos (show Int32.ofNat v<8 from (own_lt (a:=v) (b:=8) (by omega) (by decide)).mpr hv),own_siG hf1 hn h4 h7 hi];simp only[Option.bind_some,Option.toList_some,Option.toList_none,List.cons_append,List.nil_append,List.append_nil]
 rw[e1_13_23 hf1,if_neg (own_nneg (by omega)),if_pos (show Int32.ofNat (own_ix ks.length i)<40 from (own_lt (b:=40) (by omega) (by decide)).mpr (by omega)),if_pos (own_inb (by omega) (by omega)),own_nat (by omega),own_dfi hf1]
 cases e:own_bt (S 15 (own_ix ks.length i)) v
 ·rw[if_pos ((own_b01 _ (by omega)).mpr e)];rfl
 ·rw[if_neg (fun h=>by rw[(own_b01 _ (by omega)).mp h] at e;exact absurd e (by decide))];rfl
theorem own_vaG(hf1:Fx f1){ks:List (Nat×Nat)}(hn:ks.length≤30){g:Nat→Nat→Option Nat}{mk:Nat→Bool}{S:MS}(R:own_RT ks g mk S){v:Nat}(hv:v<8):∃b,f1 (13,0,[.ref 0,.int (Int32.ofNat v)],[],S)=some (some (.int (own_av b)),S)∧(b=true→mk v=true∧f1 (14,0,[.ref 0,.int (Int32.ofNat v)],[],S)=some (some (.int (S 23 v)),S))∧(b=false→f1 (14,0,[.ref 0,.int (Int32.ofNat v)],[],S)=some (some (.int 0),S)):=by
 obtain⟨L,C,⟨R1,R16⟩,i,h7,hi,G1,G2,G3,G4⟩:=R
 have av:=own_avG hf1 hn L.1.1 R1 h7 hi hv
 have ix:own_ix ks.length i≤ks.length:=by
  cases i with
  |none=>exact Nat.le_refl _
  |some s=>exact Nat.le_of_lt (hi s rfl)
 refine⟨own_bt (own_df S ks.length i) v,av,fun hb=>⟨G4 v hv hb,?_⟩,fun hb=>?_⟩
 ·have lc:=C (own_ix ks.length i) v ix hv (by rw[←own_dfi hf1 (n:=ks.length) S i];exact hb)
  have e:Int32.ofNat (own_ix ks.length i)*8+Int32.ofNat v=Int32.ofNat (own_ix ks.length i*8+v):=by rw[Int32.ofNat_add,Int32.ofNat_mul];rfl
  rw[e1_14_0 hf1,av,hb];simp only[Option.bind_some,Option.toList_some,Option.toList_none,List.cons_append,List.nil_append,List.append_nil]
  rw[e1_14_5 hf1,if_neg (by decide),own_siG hf1 hn L.1.1 h7 hi];simp only[Option.bind_some,Option.toList_some,Option.toList_none,List.cons_append,List.nil_append,List.append_nil]
  rw[e1_14_14 hf1,e,if_neg (own_nneg (by omega)),if_pos (show Int32.ofNat (own_ix ks.length i*8+v)<320 from (own_lt (b:=320) (by omega) (by decide)).mpr (by omega)),if_pos (own_inb (by omega) (by omega)),own_nat (by omega)]
  have pq:own_pq g ks.length (own_ix ks.length i)=own_pz g i:=by
   unfold own_pq
   cases i with
   |none=>rw[if_neg (show ¬own_ix ks.length none<ks.length from Nat.lt_irrefl _)];rfl
   |some s=>rw[if_pos (show own_ix ks.length (some s)<ks.length from hi s rfl)];rfl
  have wi:∀P:Prop,(own_ix ks.length i<ks.length→P)→∀s,i=some s→P:=fun P h s e=>h (by rw[e];exact hi s e)
  have rd:f1 (62,0,[.ref 0,.int (S 17 (own_ix ks.length i*8+v)),.int (S 18 (own_ix ks.length i*8+v))],[],S)=some (some (.int (S 23 v)),S):=by
   rw[e1_62_0 hf1]
   rcases lc with⟨a,b⟩ | ⟨q0,f,a,b,c,d,k⟩ | ⟨q0,a,b,c,d,k,l,m⟩
   ·rw[a,b,if_neg (by decide),if_neg (by decide),if_pos rfl,if_neg (own_nneg (by omega)),if_pos (show Int32.ofNat v<128 from (own_lt (b:=128) (by omega) (by decide)).mpr (by omega)),if_pos (own_inb (by omega) (by omega)),own_nat (by omega)]
   ·rw[c,d,if_pos rfl,G1 f v q0 hv (by rw[←pq];exact a) (fun s es=>by
     have:=k (by rw[es];exact hi s es)
     rw[es] at this;exact this) b]
   ·rw[k,l,if_neg (by decide),if_pos rfl,if_pos (of_eq_true (own_i7 (S 14 q0))),G3 q0 v hv (by rw[←pq];exact a) b c (fun s es=>by
     have:=m (by rw[es];exact hi s es)
     rw[es] at this;exact this) d]
  rw[rd];simp only[Option.bind_some,Option.toList_some,Option.toList_none,List.cons_append,List.nil_append,List.append_nil]
  rw[e1_14_49 hf1]
 ·rw[e1_14_0 hf1,av,hb];simp only[Option.bind_some,Option.toList_some,Option.toList_none,List.cons_append,List.nil_append,List.append_nil]
  rw[e1_14_5 hf1,if_pos (show own_av false=0 from rfl)]
theorem own_mkG(hf1:Fx f1)(x:Int32)(S:MS):∃S',f1 (0,431,[.ref 0,.int x],[],S)=some (none,S')∧1<S' 0 0∧S' 0 1=0∧S' 0 3=0:=by
 have ca:∀U:MS,∃S',f1 (17,0,[.ref 0],[],U)=some (none,S')∧S' 0 0=U 0 0∧S' 0 1=0∧S' 0 3=0:=fun U=>by
  rw[e1_17_0 hf1,own_cbG hf1];simp only[Option.bind_some,Option.toList_some,Option.toList_none,List.cons_append,List.nil_append,List.append_nil]
  rw[e1_17_34 hf1]
  refine⟨_,rfl,?_,?_,?_⟩<;>rw[own_ne (by omega),own_ne (by omega),own_ne (by omega),own_ne (by omega),own_fill,if_neg (by omega)]<;>rfl
 have fin:∀y,1<y→∃S',f1 (0,440,[.ref 0,.int x,.int y],[],S)=some (none,S')∧1<S' 0 0∧S' 0 1=0∧S' 0 3=0:=fun y hy=>by
  rw[e1_0_440 hf1]
  by_cases q:8<y
  ·rw[if_pos q]
   obtain⟨S',e,h0,h1,h3⟩:=ca (Jvm.OM.upd S 0 0 8)
   rw[e];simp only[Option.bind_some,Option.toList_some,Option.toList_none,List.cons_append,List.nil_append,List.append_nil]
   rw[e1_0_458 hf1]
   exact⟨S',rfl,by rw[h0];show 1<(8:Int32);decide,h1,h3⟩
  ·rw[if_neg q]
   obtain⟨S',e,h0,h1,h3⟩:=ca (Jvm.OM.upd S 0 0 y)
   rw[e];simp only[Option.bind_some,Option.toList_some,Option.toList_none,List.cons_append,List.nil_append,List.append_nil]
   rw[e1_0_458 hf1]
   exact⟨S',rfl,by rw[h0];exact hy,h1,h3⟩
 rw[e1_0_431 hf1]
 by_cases q:x<2
 ·rw[if_pos q];exact fin 2 (by decide)
 ·rw[if_neg q]
  refine fin x ?_
  rw[Int32.lt_iff_toInt_lt] at q ⊢
  have a2:(2:Int32).toInt=2:=rfl
  have a1:(1:Int32).toInt=1:=rfl
  omega
def own_BT(ts:List (Int32×Int32))(S:MS):Prop:=S 0 1=0∧1<S 0 0∧S 0 3=Int32.ofNat ts.length∧own_tkA S 0 ts
theorem own_atG(hf1:Fx f1){ts:List (Int32×Int32)}(hl:ts.length<96){S:MS}(B:own_BT ts S){k a:Int32}(h1:¬k<1)(h17:¬17<k)(h2:k=2→¬a<0∧a<8)(h0:k≠1→k≠2→a=0):∃S',f1 (1,0,[.ref 0,.int k,.int a],[],S)=some (some (.int 1),S')∧own_BT (ts++[(k,a)]) S':=by
 obtain⟨b1,b0,b3,bt⟩:=B
 have ib:inb (Int32.ofNat ts.length) 96=true:=own_inb (by omega) hl
 have fin:∀V:MS,(∀c i,¬((c=1∨c=2)∧i=ts.length)→¬(c=0∧i=3)→V c i=S c i)→V 0 3=Int32.ofNat (ts.length+1)→V 1 ts.length=k→V 2 ts.length=a→own_BT (ts++[(k,a)]) V:=fun V hV v3 v1 v2=>by
  refine⟨(hV 0 1 (by omega) (by omega)).trans b1,by rw[hV 0 0 (by omega) (by omega)];exact b0,by rw[v3,List.length_append,List.length_singleton],fun j u hu=>?_⟩
  rw[Nat.zero_add]
  by_cases q:j<ts.length
  ·rw[List.getElem?_append_left q] at hu
   rw[hV 1 j (by omega) (by omega),hV 2 j (by omega) (by omega)]
   have:=bt j u hu
   rw[Nat.zero_add] at this;exact this
  ·rw[List.getElem?_append_right (by omega)] at hu
   have ej:j-ts.length=0:=by
    cases e:j-ts.length with
    |zero=>rfl
    |succ m=>rw[e] at hu;exact absurd hu (by simp)
   rw[ej] at hu
   have eu:(k,a)=u:=Option.some.inj hu
   have:j=ts.length:=by omega
   rw[this,v1,v2,←eu]
   exact⟨rfl,rfl⟩
 have f77:∃S',f1 (1,77,[.ref 0,.int k,.int a],[],Jvm.OM.upd S 1 ts.length k)=some (some (.int 1),S')∧own_BT (ts++[(k,a)]) S':=by
  rw[e1_1_77 hf1,own_ne (by omega),b3,if_pos ib,own_add1,own_nat (by omega)]
  refine⟨_,rfl,fin _ (fun c i h h'=>?_) ?_ ?_ ?_⟩
  ·rw[own_ne (by omega),own_ne (by omega),own_ne (by omega)]
  ·rfl
  ·rw[own_ne (by omega),own_ne (by omega),own_up,if_pos ⟨rfl,rfl⟩]
  ·rw[own_ne (by omega),own_up,if_pos ⟨rfl,rfl⟩]
 have f39:∃S',f1 (1,39,[.ref 0,.int k,.int a],[],S)=some (some (.int 1),S')∧own_BT (ts++[(k,a)]) S':=by
  rw[e1_1_39 hf1,b3,if_neg (own_nneg (by omega)),if_pos (show Int32.ofNat ts.length<96 from (own_lt (b:=96) (by omega) (by decide)).mpr hl),if_pos ib,own_nat (by omega)]
  by_cases q1:k=1
  ·rw[if_pos q1];exact f77
  rw[if_neg q1]
  by_cases q2:k=2
  ·rw[if_pos q2];exact f77
  rw[if_neg q2,own_add1]
  have a0:=h0 q1 q2
  refine⟨_,rfl,fin _ (fun c i h h'=>?_) ?_ ?_ ?_⟩
  ·rw[own_ne (by omega),own_ne (by omega),own_ne (by omega)]
  ·rfl
  ·rw[own_ne (by omega),own_ne (by omega),own_up,if_pos ⟨rfl,rfl⟩]
  ·rw[own_ne (by omega),own_up,if_pos ⟨rfl,rfl⟩,a0]
 rw[e1_1_0 hf1,if_pos b1,if_neg h1,if_neg h17]
 by_cases q2:k=2
 ·rw[if_pos q2,if_neg (h2 q2).1,if_pos (h2 q2).2];exact f39
 ·rw[if_neg q2];exact f39
theorem own_spG(hf1:Fx f1){S:MS}(h1:S 0 1=1)(h16:∀i,i<32→S 16 i=0)(n:Nat)(hn:n≤30)(h4:S 0 4=Int32.ofNat n):(S 0 7 = -2→(∃y,f1 (8,0,[.ref 0],[],S)=some (some (.int y),S))∧∃y,f1 (9,0,[.ref 0,.int 1],[],S)=some (some (.int y),S))∧(S 0 7 ≠ -2→(∃y,f1 (8,0,[.ref 0],[],S)=some (some (.int y),own_stp S))∧∃y,f1 (9,0,[.ref 0,.int 1],[],S)=some (some (.int y),own_stp S)):=by
 have n0:¬S 0 1=0:=by rw[h1];decide
 have rn:f1 (9,0,[.ref 0,.int 1],[],S)=f1 (9,20,[.ref 0,.int 1,.int 1],[],S):=by
  rw[e1_9_0 hf1,if_neg (by decide),e1_9_9 hf1,if_neg (by decide)]
 refine⟨fun h7=>⟨⟨_,by rw[e1_8_0 hf1,if_neg n0,if_pos h7]⟩,⟨_,by rw[rn,e1_9_20 hf1,if_neg n0,if_pos h7]⟩⟩,fun h7=>⟨⟨_,by
  rw[e1_8_0 hf1,if_neg n0,if_neg h7,own_soF hf1];simp only[Option.bind_some,Option.toList_some,Option.toList_none,List.cons_append,List.nil_append,List.append_nil]
  rw[e1_8_25 hf1]⟩,?_⟩⟩
 rw[rn,e1_9_20 hf1,if_neg n0,if_neg h7,e1_9_43 hf1,if_pos (by decide),own_soF hf1];simp only[Option.bind_some,Option.toList_some,Option.toList_none,List.cons_append,List.nil_append,List.append_nil]
 rw[e1_9_52 hf1]
 by_cases e7:own_stp S 0 7 = -2
 ·rw[if_pos e7];exact⟨_,rfl⟩
 ·rw[if_neg e7]
  have F:=own_Fsp S
  have k16:∀i,i<32→own_stp S 16 i=0:=fun i hi=>(F.2.1 16 (by omega) (by omega) (by omega) i).trans (h16 i hi)
  have ba:f1 (20,0,[.ref 0,.int (own_stp S 0 7)],[],own_stp S)=some (some (.int 0),own_stp S):=by
   rw[e1_20_0 hf1]
   by_cases a:own_stp S 0 7<0
   ·rw[if_pos a]
   rw[if_neg a]
   by_cases b:own_stp S 0 7<own_stp S 0 4
   ·rw[if_pos b]
    by_cases c:own_stp S 0 7<32
    ·have ib:=own_inb_of (n:=32) a c (by decide)
     have lb:=own_inb_iff.mp ib
     have lt:(own_stp S 0 7).toNatClampNeg<32:=by simp only[Int32.toNatClampNeg];omega
     rw[if_pos c,if_pos ib,k16 _ lt]
     rfl
    ·rw[if_neg c]
   ·rw[if_neg b]
  rw[ba];simp only[Option.bind_some,Option.toList_some,Option.toList_none,List.cons_append,List.nil_append,List.append_nil]
  rw[e1_9_69 hf1,if_pos rfl,e1_9_43 hf1,if_neg (by decide)]
  exact⟨_,rfl⟩
theorem own_rsG(hf1:Fx f1){S:MS}(h1:S 0 1=1):f1 (10,0,[.ref 0],[],S)=some (some (.int 1),own_rst S):=by
 rw[e1_10_0 hf1,if_neg (by rw[h1];decide),own_rsF hf1];simp only[Option.bind_some,Option.toList_some,Option.toList_none,List.cons_append,List.nil_append,List.append_nil]
 rw[e1_10_13 hf1]
end H2
theorem own_ew{x y:Option (Jvm.OM.Res (W2 MS))}(h:x=y)(g:∃W,y=some (some (.int 1),W)):∃W,x=some (some (.int 1),W):=by rw[h];exact g
theorem own_jor(x y:Int64)(i:Nat):own_jb (x|||y) i=(own_jb x i||own_jb y i):=by unfold own_jb;rw[Int64.toBitVec_or,BitVec.getLsbD_or]
theorem own_bge{x:Int32}{i:Nat}(h:32≤i):own_bt x i=false:=by unfold own_bt;exact BitVec.getLsbD_of_ge _ _ h
theorem own_b32(l:Int64){i:Nat}(h:i<32):own_bt l.toInt32 i=own_jb l i:=by
 unfold own_bt own_jb
 have:l.toInt32.toBitVec=l.toBitVec.signExtend 32:=rfl
 rw[this,BitVec.getLsbD_signExtend,decide_eq_true h,Bool.true_and,if_pos (by omega)]
theorem own_j32(v:Int32){i:Nat}(h:i<32):own_jb v.toInt64 i=own_bt v i:=by
 unfold own_bt own_jb
 have:v.toInt64.toBitVec=v.toBitVec.signExtend 64:=rfl
 rw[this,BitVec.getLsbD_signExtend,decide_eq_true (by omega),Bool.true_and,if_pos h]
theorem own_kA{i:Nat}(h:i<64):own_jb (-4294967296) i=decide (32≤i):=by
 have e:∀k:Fin 64,own_jb (-4294967296) k.val=decide (32≤k.val):=by decide
 exact e ⟨i,h⟩
theorem own_kB{i:Nat}(h:i<64):own_jb 4294967295 i=decide (i<32):=by
 have e:∀k:Fin 64,own_jb 4294967295 k.val=decide (k.val<32):=by decide
 exact e ⟨i,h⟩
def own_gh(l:Int64)(h:Nat):Int32:=if h=0 then l.toInt32 else (XT.ushrL l 32).toInt32
def own_ph(l:Int64)(h:Nat)(v:Int32):Int64:=if h=0 then ((l&&&(-4294967296))|||(v.toInt64&&&4294967295)) else ((l&&&4294967295)|||(v.toInt64<<<((32:Int32).toInt64&&&63)))
theorem own_ghb(l:Int64)(h:Nat){i:Nat}(hi:i<32):own_bt (own_gh l h) i=own_jb l (if h=0 then i else 32+i):=by
 unfold own_gh
 by_cases z:h=0
 ·rw[if_pos z,if_pos z,own_b32 _ hi]
 ·rw[if_neg z,if_neg z,own_b32 _ hi]
  exact own_ush (k:=32) (by omega)
theorem own_phb(l:Int64)(h:Nat)(v:Int32){i:Nat}(hi:i<64):own_jb (own_ph l h v) i=if h=0 then (if i<32 then own_bt v i else own_jb l i) else (if i<32 then own_jb l i else own_bt v (i-32)):=by
 unfold own_ph
 by_cases z:h=0
 ·rw[if_pos z,if_pos z,own_jor,own_jand,own_jand,own_kA hi,own_kB hi]
  by_cases q:i<32
  ·rw[if_pos q,own_j32 v q,decide_eq_false (by omega),decide_eq_true q,Bool.and_false,Bool.false_or,Bool.and_true]
  ·rw[if_neg q,decide_eq_true (show 32≤i by omega),decide_eq_false q,Bool.and_false,Bool.or_false,Bool.and_true]
 ·have sh:own_jb (v.toInt64<<<((32:Int32).toInt64&&&63)) i=(decide (i<64) && !decide (i<32)&&own_jb v.toInt64 (i-32)):=own_jsh (k:=32) (by omega)
  rw[if_neg z,if_neg z,own_jor,own_jand,own_kB hi,sh,decide_eq_true hi]
  by_cases q:i<32
  ·rw[if_pos q,decide_eq_true q,Bool.and_true];simp
  ·rw[if_neg q,decide_eq_false q,Bool.and_false,Bool.false_or,own_j32 v (show i-32<32 by omega)];simp
theorem own_gp(l:Int64){h h':Nat}(hh:h<2)(hh':h'<2)(v:Int32):own_gh (own_ph l h v) h'=if h'=h then v else own_gh l h':=own_bext fun i=>by
 by_cases q:i<32
 ·rw[own_ghb _ _ q,own_phb _ _ _ (by by_cases z:h'=0;rw[if_pos z];omega;rw[if_neg z];omega)]
  have c:(h=0∨h=1)∧(h'=0∨h'=1):=by omega
  rcases c with⟨rfl | rfl,rfl | rfl⟩
  ·simp[q]
  ·have e1:(if (1:Nat)=0 then i else 32+i)=32+i:=if_neg (by decide)
   rw[e1,if_pos rfl,if_neg (show ¬32+i<32 by omega),if_neg (show ¬(1:Nat)=0 by decide),own_ghb _ _ q,e1]
  ·rw[if_neg (by decide),if_pos rfl,if_pos q,if_neg (by decide),own_ghb _ _ q,if_pos rfl]
  ·have e1:(if (1:Nat)=0 then i else 32+i)=32+i:=if_neg (by decide)
   rw[e1,if_neg (show ¬(1:Nat)=0 by decide),if_neg (show ¬32+i<32 by omega),if_pos rfl,show 32+i-32=i from by omega]
 ·rw[own_bge (by omega),own_bge (by omega)]
def own_sl(a b c d:Int64)(v:Nat):Int64:=if v<2 then a else if v<4 then b else if v<6 then c else d
def own_MV(a b c d:Int64)(mk:Int32)(S:MS):Prop:=∀v,v<8→own_bt mk v=true→own_gh (own_sl a b c d v) (v%2)=S 23 v
theorem own_h8:∀v:Fin 8,(Int32.ofNat v.val&&&1=0↔v.val%2=0)∧Int32.ofNat v.val&&&1=Int32.ofNat (v.val%2)∧Int32.ofNat v.val>>>((1:Int32)&&&31)=Int32.ofNat (v.val/2):=by decide
def own_kb(q:Nat×Nat→Bool)(ks:List (Nat×Nat))(s:Nat):Bool:=match ks[s]? with
 |some x=>q x
 |none=>false
theorem own_kbA(q:Nat×Nat→Bool)(ks:List (Nat×Nat))(x:Nat×Nat)(s:Nat):own_kb q (ks++[x]) s=(own_kb q ks s||(decide (s=ks.length)&&q x)):=by
 unfold own_kb
 by_cases h:s<ks.length
 ·rw[List.getElem?_append_left h,decide_eq_false (by omega),Bool.false_and,Bool.or_false]
 ·rw[List.getElem?_append_right (by omega),List.getElem?_eq_none (show ks.length≤s by omega)]
  by_cases e:s=ks.length
  ·rw[e,Nat.sub_self];simp
  ·rw[decide_eq_false e]
   cases m:s-ks.length with
   |zero=>omega
   |succ m=>rfl
def own_q6(x:Nat×Nat):Bool:=decide (x.1=2)
def own_qb(k:Nat)(x:Nat×Nat):Bool:=decide (x.1=2)&&x.2.testBit k
def own_BB(ks:List (Nat×Nat))(x6 x7 x8 x9:Int32):Prop:=(∀s,own_bt x6 s=own_kb own_q6 ks s)∧(∀s,own_bt x7 s=own_kb (own_qb 0) ks s)∧(∀s,own_bt x8 s=own_kb (own_qb 1) ks s)∧∀s,own_bt x9 s=own_kb (own_qb 2) ks s
theorem own_kbn(q:Nat×Nat→Bool){ks:List (Nat×Nat)}{x:Nat×Nat}(h:q x=false)(s:Nat):own_kb q (ks++[x]) s=own_kb q ks s:=by rw[own_kbA,h,Bool.and_false,Bool.or_false]
theorem own_kby(q:Nat×Nat→Bool){ks:List (Nat×Nat)}(hl:ks.length<32){x:Nat×Nat}(h:q x=true){y:Int32}(hy:∀s,own_bt y s=own_kb q ks s)(s:Nat):own_bt (y|||(1<<<(Int32.ofNat ks.length&&&31))) s=own_kb q (ks++[x]) s:=by
 rw[own_kbA,h,Bool.and_true,own_bto,hy,show own_bt ((1:Int32)<<<(Int32.ofNat ks.length&&&31)) s=decide (s=ks.length) from own_bit1 hl s]
theorem own_vx:∀v:Fin 8,((if v.val.testBit 0 then (1:Int32) else 0)|||((if v.val.testBit 1 then (1:Int32) else 0)<<<((1:Int32)&&&31)))|||((if v.val.testBit 2 then (1:Int32) else 0)<<<((2:Int32)&&&31))=Int32.ofNat v.val:=by decide
theorem own_b1e(s:Int32){c:Nat}(hc:c<32):(s>>>(Int32.ofNat c&&&31))&&&1=if own_bt s c=true then 1 else 0:=by
 by_cases q:own_bt s c=true
 ·rw[if_pos q];exact (own_bsh s hc).mpr q
 ·rw[if_neg q];exact (own_b01 s hc).mpr (by rw[Bool.not_eq_true] at q;exact q)
theorem own_vbits:∀v:Fin 8,((Int32.ofNat v.val&&&1=0)↔v.val.testBit 0=false)∧((Int32.ofNat v.val&&&2=0)↔v.val.testBit 1=false)∧((Int32.ofNat v.val&&&4=0)↔v.val.testBit 2=false):=by decide
theorem own_vlA:∀ {xs:List (Nat×Nat×List (Int32×Int32))} {x:Nat×Nat×List (Int32×Int32)} {d d' d'':Nat},own_vl d xs d'→own_vl d' [x] d''→own_vl d (xs++[x]) d''
 |[],x,d,d',d'',h,h'=>by
  have e:d=d':=h
  rw[e];exact h'
 |y::xs,x,d,d',d'',⟨hy,h0,h1,h2⟩,h'=>⟨hy,fun z=>⟨(h0 z).1,own_vlA (h0 z).2 h'⟩,fun z=>⟨(h1 z).1,own_vlA (h1 z).2 h'⟩,fun z=>own_vlA (h2 z) h'⟩
theorem own_stA2(xs:List (Nat×Nat×List (Int32×Int32)))(x:Nat×Nat×List (Int32×Int32)):own_st (xs++[x])=own_st xs++(if x.1=0 then [] else [(x.1,x.2.1)]):=by
 unfold own_st;rw[List.flatMap_append,List.flatMap_cons,List.flatMap_nil,List.append_nil]
def own_tt(Its:List (Nat×Nat×List (Int32×Int32))):List (Int32×Int32):=Its.flatMap fun x=>x.2.2
theorem own_ttA(Its:List (Nat×Nat×List (Int32×Int32)))(x:Nat×Nat×List (Int32×Int32)):own_tt (Its++[x])=own_tt Its++x.2.2:=by
 unfold own_tt;rw[List.flatMap_append,List.flatMap_cons,List.flatMap_nil,List.append_nil]
theorem own_stl:∀xs:List (Nat×Nat×List (Int32×Int32)),(own_st xs).length≤xs.length
 |[]=>Nat.le_refl _
 |x::xs=>by
  have:=own_stl xs
  unfold own_st at this ⊢
  rw[List.flatMap_cons,List.length_append,List.length_cons]
  have:(if x.1=0 then ([]:List (Nat×Nat)) else [(x.1,x.2.1)]).length≤1:=by split<;>simp
  omega
theorem own_tag:∀ {xs:List (Nat×Nat×List (Int32×Int32))} {d d':Nat},own_vl d xs d'→∀y∈own_st xs,y.1=1∨y.1=2
 |[],_,_,_,y,hy=>absurd hy (by simp[own_st])
 |x::xs,d,d',⟨hx,h0,h1,h2⟩,y,hy=>by
  have tag:x.1=0∨x.1=1∨x.1=2:=by
   rcases hx with rfl | ⟨_,_,_,_,rfl,_⟩ | ⟨_,_,rfl,_⟩
   ·exact Or.inl rfl
   ·exact Or.inr (Or.inl rfl)
   ·exact Or.inr (Or.inr rfl)
  unfold own_st at hy
  rw[List.flatMap_cons,List.mem_append] at hy
  rcases hy with hy | hy
  ·by_cases z:x.1=0
   ·rw[if_pos z] at hy;exact absurd hy (by simp)
   ·rw[if_neg z,List.mem_singleton] at hy
    rw[hy];omega
  ·rcases tag with z | z | z
   ·exact own_tag (h0 z).2 y hy
   ·exact own_tag (h1 z).2 y hy
   ·exact own_tag (h2 z) y hy
def own_BL(Its:List (Nat×Nat×List (Int32×Int32)))(d:Nat)(S:MS)(x6 x7 x8 x9:Int32):Prop:=own_BT (own_tt Its) S∧own_vl 0 Its d∧own_BB (own_st Its) x6 x7 x8 x9
theorem own_ofi2{a c:Nat}(ha:a<1000)(hc:c<1000)(e:Int32.ofNat a=Int32.ofNat c):a=c:=by
 have e':=congrArg Int32.toInt e
 rw[own_toInt_ofNat (by omega),own_toInt_ofNat (by omega)] at e'
 omega
theorem own_and7(x:Int32):∃v,v<8∧x&&&7=Int32.ofNat v:=by
 obtain⟨k,hk,e⟩:=own_andk x (m:=7) (by omega)
 exact⟨k,by omega,e⟩
section Law
variable {f1:FT1}
variable {f2:FT2} {xs:List Int32}
theorem own_cellF(hf1:Fx f1)(hf2:Fix2 ms1 ms2 iv1 431 nmax1 (some xs) f1 f2){kk:Nat}(hx:xs.length<2147483648)(h:kk<1000000)(ob:List MS):∃v,f2 (1,0,[.ref 0,.int (Int32.ofNat kk)],[],(false,ob))=some (some (.int v),(false,ob)):=by
 have E:=e2_1_0 hf2 (Int32.ofNat kk) ob
 by_cases q:Int32.ofNat kk<Int32.ofNat xs.length
 ·rw[if_pos q] at E
  by_cases b:inb (Int32.ofNat kk) xs.length=true
  ·rw[if_pos b] at E;exact⟨_,E⟩
  ·exact absurd (own_inb_of (own_nneg (by omega)) q hx) b
 ·rw[if_neg q] at E;exact⟨_,E⟩
theorem own_gtF(hf1:Fx f1)(hf2:Fix2 ms1 ms2 iv1 431 nmax1 (some xs) f1 f2)(a b c d:Int64){v:Nat}(hv:v<8)(ob:List MS):f2 (3,0,[.long a,.null,.long b,.null,.long c,.null,.long d,.null,.int (Int32.ofNat v)],[],(false,ob))=some (some (.int (own_gh (own_sl a b c d v) (v%2))),(false,ob)):=by
 obtain⟨h1,h2,-⟩:=own_h8 ⟨v,hv⟩
 have g:∀l:Int64,f2 (4,0,[.long l,.null,.int (Int32.ofNat v&&&1)],[],(false,ob))=some (some (.int (own_gh l (v%2))),(false,ob)):=fun l=>by
  refine Eq.trans (e2_4_0 hf2 ..) ?_
  unfold own_gh
  by_cases z:v%2=0
  ·rw[if_pos (h1.mpr z),if_pos z]
  ·rw[if_neg (fun h=>z (h1.mp h)),if_neg z]
 refine Eq.trans (e2_3_0 hf2 ..) ?_
 unfold own_sl
 by_cases q2:v<2
 ·rw[if_pos (show Int32.ofNat v<2 from (own_lt (b:=2) (by omega) (by decide)).mpr q2),if_pos q2,g];simp only[Option.bind_some,Option.toList_some,Option.toList_none,List.cons_append,List.nil_append,List.append_nil]
  exact e2_3_45 hf2 ..
 rw[if_neg (show ¬Int32.ofNat v<2 from fun h=>q2 ((own_lt (b:=2) (by omega) (by decide)).mp h)),if_neg q2]
 by_cases q4:v<4
 ·rw[if_pos (show Int32.ofNat v<4 from (own_lt (b:=4) (by omega) (by decide)).mpr q4),if_pos q4,g];simp only[Option.bind_some,Option.toList_some,Option.toList_none,List.cons_append,List.nil_append,List.append_nil]
  exact e2_3_45 hf2 ..
 rw[if_neg (show ¬Int32.ofNat v<4 from fun h=>q4 ((own_lt (b:=4) (by omega) (by decide)).mp h)),if_neg q4]
 by_cases q6:v<6
 ·rw[if_pos (show Int32.ofNat v<6 from (own_lt (b:=6) (by omega) (by decide)).mpr q6),if_pos q6,g];simp only[Option.bind_some,Option.toList_some,Option.toList_none,List.cons_append,List.nil_append,List.append_nil]
  exact e2_3_45 hf2 ..
 rw[if_neg (show ¬Int32.ofNat v<6 from fun h=>q6 ((own_lt (b:=6) (by omega) (by decide)).mp h)),if_neg q6,g];simp only[Option.bind_some,Option.toList_some,Option.toList_none,List.cons_append,List.nil_append,List.append_nil]
 exact e2_3_45 hf2 ..
theorem own_puF(hf1:Fx f1)(hf2:Fix2 ms1 ms2 iv1 431 nmax1 (some xs) f1 f2)(l:Int64){v:Nat}(hv:v<8)(w:Int32)(ob:List MS):f2 (2,0,[.long l,.null,.int (Int32.ofNat v&&&1),.int w],[],(false,ob))=some (some (.long (own_ph l (v%2) w)),(false,ob)):=by
 obtain⟨h1,h2,-⟩:=own_h8 ⟨v,hv⟩
 refine Eq.trans (e2_2_0 hf2 ..) ?_
 unfold own_ph
 by_cases z:v%2=0
 ·rw[if_pos (h1.mpr z),if_pos z]
 ·rw[if_neg (fun h=>z (h1.mp h)),if_neg z]
theorem own_ckL(hf1:Fx f1)(hf2:Fix2 ms1 ms2 iv1 431 nmax1 (some xs) f1 f2){ks:List (Nat×Nat)}(hn:ks.length≤30){g:Nat→Nat→Option Nat}{S:MS}{a b c d:Int64}{p ns dp st x6 x7 x8 x9 mk t:Int32}(R:own_RT ks g (own_bt mk) S)(M:own_MV a b c d mk S):∀r v,v+r=8→f2 (0,538,[.ref 0,.ref 1,.int p,.int ns,.int dp,.int st,.int x6,.int x7,.int x8,.int x9,.int 1,.long a,.null,.long b,.null,.long c,.null,.long d,.null,.int mk,.int t,.int (Int32.ofNat v)],[],(false,[S]))=f2 (0,538,[.ref 0,.ref 1,.int p,.int ns,.int dp,.int st,.int x6,.int x7,.int x8,.int x9,.int 1,.long a,.null,.long b,.null,.long c,.null,.long d,.null,.int mk,.int t,.int (Int32.ofNat 8)],[],(false,[S])):=by
 intro r
 induction r with
 |zero=>
  intro v h
  have:v=8:=h
  rw[this]
 |succ r ih=>
  intro v h
  have hv:v<8:=by omega
  refine Eq.trans (Eq.trans (e2_0_538 hf2 ..) ?_) (ih (v+1) (by omega))
  obtain⟨bb,ea,ht,hf⟩:=own_vaG hf1 hn R hv
  rw[if_pos (show Int32.ofNat v<8 from (own_lt (b:=8) (by omega) (by decide)).mpr hv),ea];simp only[Option.bind_some,Option.toList_some,Option.toList_none,List.cons_append,List.nil_append,List.append_nil]
  refine Eq.trans (e2_0_551 hf2 ..) ?_
  cases bb
  ·rw[if_pos (show own_av false=0 from rfl),hf rfl];simp only[Option.bind_some,Option.toList_some,Option.toList_none,List.cons_append,List.nil_append,List.append_nil]
   refine Eq.trans (e2_0_594 hf2 ..) ?_
   rw[if_pos rfl,own_add1]
  ·obtain⟨hm,ev⟩:=ht rfl
   rw[if_neg (show ¬own_av true=0 by decide),if_neg (fun h=>by rw[(own_b01 mk (by omega)).mp h] at hm;exact absurd hm (by decide)),ev];simp only[Option.bind_some,Option.toList_some,Option.toList_none,List.cons_append,List.nil_append,List.append_nil]
   refine Eq.trans (e2_0_570 hf2 ..) ?_
   rw[own_gtF hf1 hf2 a b c d hv [S]];simp only[Option.bind_some,Option.toList_some,Option.toList_none,List.cons_append,List.nil_append,List.append_nil]
   refine Eq.trans (e2_0_583 hf2 ..) ?_
   rw[if_pos (M v hv hm).symm,own_add1]
theorem own_dbg(hf1:Fx f1)(hf2:Fix2 ms1 ms2 iv1 431 nmax1 (some xs) f1 f2)(hx:xs.length<2147483648){ks:List (Nat×Nat)}(hn:ks.length≤30)(tg:∀y∈ks,y.1=1∨y.1=2){g:Nat→Nat→Option Nat}{pp:Nat}(hp:pp<1000){p ns dp st x6 x7 x8 x9:Int32}(ep:p=Int32.ofNat pp)(BB:own_BB ks x6 x7 x8 x9):∀r tt t S a b c d mk,tt+r=100→t=Int32.ofNat tt→own_RT ks g (own_bt mk) S→own_MV a b c d mk S→∃W,f2 (0,528,[.ref 0,.ref 1,.int p,.int ns,.int dp,.int st,.int x6,.int x7,.int x8,.int x9,.int 1,.long a,.null,.long b,.null,.long c,.null,.long d,.null,.int mk,.int t],[],(false,[S]))=some (some (.int 1),W):=by
 intro r
 induction r with
 |zero=>
  intro tt t S a b c d mk h et R M
  have h100:tt=100:=h
  refine own_ew (e2_0_528 hf2 ..) ?_
  rw[et,h100,if_neg (by decide)]
  refine own_ew (own_ckL hf1 hf2 hn R M 8 0 rfl) ?_
  refine own_ew (e2_0_538 hf2 ..) ?_
  rw[if_neg (by decide),if_pos (show Int32.ofNat 100=100 from rfl)]
  exact⟨_,rfl⟩
 |succ r ih=>
  intro tt t S a b c d mk h et R M
  have t1:t+1=Int32.ofNat (tt+1):=by rw[et];exact own_add1 tt
  refine own_ew (e2_0_528 hf2 ..) ?_
  rw[if_neg (show ¬100<t by rw[et];exact fun z=>by have:=(own_lt (a:=100) (by decide) (by omega)).mp z;omega)]
  refine own_ew (own_ckL hf1 hf2 hn R M 8 0 rfl) ?_
  refine own_ew (e2_0_538 hf2 ..) ?_
  rw[if_neg (by decide),if_neg (show ¬t=100 by rw[et];exact fun z=>by have:=own_ofi2 (a:=tt) (c:=100) (by omega) (by omega) z;omega)]
  obtain⟨cc,ec⟩:=own_cellF hf1 hf2 (kk:=pp+tt) hx (by omega) [S]
  rw[show p+t=Int32.ofNat (pp+tt) by rw[ep,et];exact (Int32.ofNat_add pp tt).symm,ec];simp only[Option.bind_some,Option.toList_some,Option.toList_none,List.cons_append,List.nil_append,List.append_nil]
  refine own_ew (e2_0_623 hf2 ..) ?_
  have nxt:=fun S' a' b' c' d' mk' (R':own_RT ks g (own_bt mk') S') (M':own_MV a' b' c' d' mk' S')=>ih (tt+1) (t+1) S' a' b' c' d' mk' (by omega) t1 R' M'
  have R0:=R
  obtain⟨L,C,⟨R1,R16⟩,i,h7,hi,G⟩:=R
  by_cases c15:cc&&&15=15
  ·rw[if_pos c15,own_rsG hf1 R1];simp only[Option.bind_some,Option.toList_some,Option.toList_none,List.cons_append,List.nil_append,List.append_nil]
   refine own_ew (e2_0_639 hf2 ..) ?_
   rw[if_neg (by decide)]
   have z:own_bt (0:Int32)=fun _=>false:=funext fun v=>(own_bz 0).mp rfl v
   exact nxt _ a b c d 0 (by rw[z];exact own_RT0 L C ⟨R1,R16⟩ hn) fun v _ hb=>by
    rw[z] at hb
    have hb':false=true:=hb
    exact absurd hb' (by decide)
  ·rw[if_neg c15,e1_11_0 hf1,if_neg (by rw[R1];decide)];simp only[Option.bind_some,Option.toList_some,Option.toList_none,List.cons_append,List.nil_append,List.append_nil]
   refine own_ew (e2_0_654 hf2 ..) ?_
   obtain⟨sE,sN⟩:=own_spG hf1 R1 R16 ks.length hn L.1.1
   have both:∀S',(∃y,f1 (8,0,[.ref 0],[],S)=some (some (.int y),S'))→(∃y,f1 (9,0,[.ref 0,.int 1],[],S)=some (some (.int y),S'))→(∃W,f2 (0,677,[.ref 0,.ref 1,.int p,.int ns,.int dp,.int st,.int x6,.int x7,.int x8,.int x9,.int 1,.long a,.null,.long b,.null,.long c,.null,.long d,.null,.int mk,.int t,.int (cc&&&15),.int (S 0 7)],[],(false,[S']))=some (some (.int 1),W))→∃W,(if cc&&&15=14 then ((f1 (9,0,[.ref 0,.int 1],[],S)).bind fun q=>f2 (0,668,[.ref 0,.ref 1,.int p,.int ns,.int dp,.int st,.int x6,.int x7,.int x8,.int x9,.int 1,.long a,.null,.long b,.null,.long c,.null,.long d,.null,.int mk,.int t,.int (cc&&&15),.int (S 0 7)],q.1.toList++[],(false,[q.2]))) else ((f1 (8,0,[.ref 0],[],S)).bind fun q=>f2 (0,676,[.ref 0,.ref 1,.int p,.int ns,.int dp,.int st,.int x6,.int x7,.int x8,.int x9,.int 1,.long a,.null,.long b,.null,.long c,.null,.long d,.null,.int mk,.int t,.int (cc&&&15),.int (S 0 7)],q.1.toList++[],(false,[q.2]))))=some (some (.int 1),W):=fun S' ⟨y,ey⟩ ⟨y',ey'⟩ h=>by
    by_cases c14:cc&&&15=14
    ·rw[if_pos c14,ey'];simp only[Option.bind_some,Option.toList_some,Option.toList_none,List.cons_append,List.nil_append,List.append_nil]
     exact own_ew (e2_0_668 hf2 ..) h
    ·rw[if_neg c14,ey];simp only[Option.bind_some,Option.toList_some,Option.toList_none,List.cons_append,List.nil_append,List.append_nil]
     exact own_ew (e2_0_676 hf2 ..) h
   by_cases e2:S 0 7 = -2
   ·obtain⟨hs,hr⟩:=sE e2
    refine both S hs hr ?_
    refine own_ew (e2_0_677 hf2 ..) ?_
    rw[e2,if_pos (by decide)]
    exact nxt S a b c d mk R0 M
   ·obtain⟨hs,hr⟩:=sN e2
    refine both (own_stp S) hs hr ?_
    refine own_ew (e2_0_677 hf2 ..) ?_
    cases i with
    |none=>exact absurd h7 e2
    |some s=>
     have sl:=hi s rfl
     have h7':S 0 7=Int32.ofNat s:=h7
     have gk:ks[s]? = some (ks.getD s (0,0)):=by rw[List.getD_eq_getElem?_getD,List.getElem?_eq_getElem sl];rfl
     have tag:=tg (ks.getD s (0,0)) (List.mem_of_getElem? gk)
     obtain⟨r1,r2⟩:=own_RTs hn R0 sl h7' tag
     have b6:own_bt x6 s=decide ((ks.getD s (0,0)).1=2):=by rw[BB.1];unfold own_kb;rw[gk];rfl
     rw[h7',if_neg (own_nneg (by omega))]
     rcases tag with z | z
     ·rw[if_pos ((own_b01 x6 (by omega)).mpr (by rw[b6,z];rfl))]
      obtain⟨R',m23⟩:=r1 z
      exact nxt _ a b c d mk R' fun v hv hb=>by rw[m23];exact M v hv hb
     ·obtain⟨R',v8,h9,h23,o23⟩:=r2 z
      have bq:∀k,own_kb (own_qb k) ks s=(ks.getD s (0,0)).2.testBit k:=fun k=>by
       unfold own_kb;rw[gk];show (decide ((ks.getD s (0,0)).1=2)&&_)=_;rw[z];rfl
      rw[if_neg (fun h=>by have:=(own_b01 x6 (by omega)).mp h;rw[b6,z] at this;exact absurd this (by decide))]
      rw[own_b1e x7 (by omega),own_b1e x8 (by omega),own_b1e x9 (by omega),BB.2.1,BB.2.2.1,BB.2.2.2,bq,bq,bq]
      generalize (ks.getD s (0,0)).2=v0 at *
      have F:=own_Fsp S
      have s1:own_stp S 0 1=1:=(F.1 1 (by omega)).trans R1
      rw[show _=Int32.ofNat v0 from own_vx ⟨v0,v8⟩,e1_15_0 hf1,if_neg (by rw[s1];decide),h9];simp only[Option.bind_some,Option.toList_some,Option.toList_none,List.cons_append,List.nil_append,List.append_nil]
      refine own_ew (e2_0_725 hf2 ..) ?_
      rw[if_pos rfl,e1_16_0 hf1,if_neg (by rw[s1];decide)];simp only[Option.bind_some,Option.toList_some,Option.toList_none,List.cons_append,List.nil_append,List.append_nil]
      refine own_ew (e2_0_736 hf2 ..) ?_
      obtain⟨-,m1,d1⟩:=own_h8 ⟨v0,v8⟩
      rw[d1]
      have mb:own_bt (mk|||(1<<<(Int32.ofNat v0&&&31)))=fun w=>own_bt mk w||decide (w=v0):=funext fun w=>by
       rw[own_bto,show own_bt ((1:Int32)<<<(Int32.ofNat v0&&&31)) w=decide (w=v0) from own_bit1 (by omega) w]
      have fin:∀a' b' c' d':Int64,(∀v,v<8→own_gh (own_sl a' b' c' d' v) (v%2)=if v=v0 then own_stp S 0 10 else own_gh (own_sl a b c d v) (v%2))→∃W,f2 (0,528,[.ref 0,.ref 1,.int p,.int ns,.int dp,.int st,.int x6,.int x7,.int x8,.int x9,.int 1,.long a',.null,.long b',.null,.long c',.null,.long d',.null,.int (mk|||(1<<<(Int32.ofNat v0&&&31))),.int (t+1)],[],(false,[own_stp S]))=some (some (.int 1),W):=fun a' b' c' d' hsl=>by
       refine nxt _ a' b' c' d' _ (by rw[mb];exact R') fun v hv hb=>?_
       rw[hsl v hv]
       by_cases e:v=v0
       ·rw[if_pos e,e,h23]
       ·rw[if_neg e,o23 v e]
        rw[mb] at hb
        have hb':(own_bt mk v||decide (v=v0))=true:=hb
        rw[decide_eq_false e,Bool.or_false] at hb'
        exact M v hv hb'
      have half:∀(l:Int64) (v:Nat),own_gh (own_ph l (v0%2) (own_stp S 0 10)) (v%2)=if v%2=v0%2 then own_stp S 0 10 else own_gh l (v%2):=fun l v=>own_gp l (by omega) (by omega) _
      by_cases q0:v0/2=0
      ·rw[q0,if_pos (show Int32.ofNat 0=0 from rfl),own_puF hf1 hf2 a v8 _ [own_stp S]];simp only[Option.bind_some,Option.toList_some,Option.toList_none,List.cons_append,List.nil_append,List.append_nil]
       refine own_ew (e2_0_769 hf2 ..) ?_
       refine fin _ b c d fun v hv=>?_
       unfold own_sl
       by_cases z2:v<2
       ·rw[if_pos z2,if_pos z2,half]
        by_cases e:v=v0
        ·rw[if_pos e,if_pos (by rw[e])]
        ·rw[if_neg e,if_neg (by omega)]
       ·rw[if_neg z2,if_neg z2,if_neg (show ¬v=v0 by omega)]
      rw[if_neg (show ¬Int32.ofNat (v0/2)=0 from fun h=>q0 (own_ofi (c:=0) (by omega) (by omega) h))]
      by_cases q1:v0/2=1
      ·rw[q1,if_pos (show Int32.ofNat 1=1 from rfl),own_puF hf1 hf2 b v8 _ [own_stp S]];simp only[Option.bind_some,Option.toList_some,Option.toList_none,List.cons_append,List.nil_append,List.append_nil]
       refine own_ew (e2_0_791 hf2 ..) ?_
       refine fin a _ c d fun v hv=>?_
       unfold own_sl
       by_cases z2:v<2
       ·rw[if_pos z2,if_pos z2,if_neg (show ¬v=v0 by omega)]
       rw[if_neg z2,if_neg z2]
       by_cases z4:v<4
       ·rw[if_pos z4,if_pos z4,half]
        by_cases e:v=v0
        ·rw[if_pos e,if_pos (by rw[e])]
        ·rw[if_neg e,if_neg (by omega)]
       ·rw[if_neg z4,if_neg z4,if_neg (show ¬v=v0 by omega)]
      rw[if_neg (show ¬Int32.ofNat (v0/2)=1 from fun h=>q1 (own_ofi (c:=1) (by omega) (by omega) h))]
      by_cases q2:v0/2=2
      ·rw[q2,if_pos (show Int32.ofNat 2=2 from rfl),own_puF hf1 hf2 c v8 _ [own_stp S]];simp only[Option.bind_some,Option.toList_some,Option.toList_none,List.cons_append,List.nil_append,List.append_nil]
       refine own_ew (e2_0_813 hf2 ..) ?_
       refine fin a b _ d fun v hv=>?_
       unfold own_sl
       by_cases z2:v<2
       ·rw[if_pos z2,if_pos z2,if_neg (show ¬v=v0 by omega)]
       rw[if_neg z2,if_neg z2]
       by_cases z4:v<4
       ·rw[if_pos z4,if_pos z4,if_neg (show ¬v=v0 by omega)]
       rw[if_neg z4,if_neg z4]
       by_cases z6:v<6
       ·rw[if_pos z6,if_pos z6,half]
        by_cases e:v=v0
        ·rw[if_pos e,if_pos (by rw[e])]
        ·rw[if_neg e,if_neg (by omega)]
       ·rw[if_neg z6,if_neg z6,if_neg (show ¬v=v0 by omega)]
      rw[if_neg (show ¬Int32.ofNat (v0/2)=2 from fun h=>q2 (own_ofi (c:=2) (by omega) (by omega) h)),own_puF hf1 hf2 d v8 _ [own_stp S]];simp only[Option.bind_some,Option.toList_some,Option.toList_none,List.cons_append,List.nil_append,List.append_nil]
      refine own_ew (e2_0_827 hf2 ..) ?_
      refine fin a b c _ fun v hv=>?_
      unfold own_sl
      by_cases z2:v<2
      ·rw[if_pos z2,if_pos z2,if_neg (show ¬v=v0 by omega)]
      rw[if_neg z2,if_neg z2]
      by_cases z4:v<4
      ·rw[if_pos z4,if_pos z4,if_neg (show ¬v=v0 by omega)]
      rw[if_neg z4,if_neg z4]
      by_cases z6:v<6
      ·rw[if_pos z6,if_pos z6,if_neg (show ¬v=v0 by omega)]
      rw[if_neg z6,if_neg z6,half]
      by_cases e:v=v0
      ·rw[if_pos e,if_pos (by rw[e])]
      ·rw[if_neg e,if_neg (by omega)]
theorem own_opF(hf1:Fx f1)(hf2:Fix2 ms1 ms2 iv1 431 nmax1 (some xs) f1 f2)(x:Int32)(ob:List MS):∃op,f2 (5,0,[.int x],[],(false,ob))=some (some (.int op),(false,ob))∧(op=5∨op=6∨op=7∨op=8∨op=9):=by
 have E:=e2_5_0 hf2 x ob
 by_cases a:x=0
 ·rw[if_pos a] at E;exact⟨_,E,by simp⟩
 rw[if_neg a] at E
 by_cases b:x=1
 ·rw[if_pos b] at E;exact⟨_,E,by simp⟩
 rw[if_neg b] at E
 by_cases c:x=2
 ·rw[if_pos c] at E;exact⟨_,E,by simp⟩
 rw[if_neg c] at E
 by_cases d:x=3
 ·rw[if_pos d] at E;exact⟨_,E,by simp⟩
 rw[if_neg d] at E
 exact⟨_,E,by simp⟩
theorem own_clsL(hf1:Fx f1)(hf2:Fix2 ms1 ms2 iv1 431 nmax1 (some xs) f1 f2)(hx:xs.length<2147483648){pp:Nat}(hp:pp<1000){p ns x6 x7 x8 x9 x11:Int32}(ep:p=Int32.ofNat pp):∀d Its S,own_BL Its d S x6 x7 x8 x9→(own_tt Its).length+d≤84→Its.length+d≤17→∃W,f2 (0,461,[.ref 0,.ref 1,.int p,.int ns,.int (Int32.ofNat d),.int (Int32.ofNat (own_st Its).length),.int x6,.int x7,.int x8,.int x9,.int 1,.int x11],[],(false,[S]))=some (some (.int 1),W):=by
 intro d
 induction d with
 |zero=>
  intro Its S B hl hi
  obtain⟨⟨b1,b0,b3,bt⟩,V,BB⟩:=B
  have sl:=own_stl Its
  refine own_ew (e2_0_461 hf2 ..) ?_
  obtain⟨U,g,e,u1,u16,L,C⟩:=own_cpG hf1 b1 b0 (show (own_tt Its).length≤96 by omega) b3 bt V (by omega) (by omega)
  rw[if_neg (by decide),if_neg (by decide),e];simp only[Option.bind_some,Option.toList_some,Option.toList_none,List.cons_append,List.nil_append,List.append_nil]
  refine own_ew (e2_0_495 hf2 ..) ?_
  rw[if_pos rfl,e1_6_0 hf1,if_neg (show ¬own_rst U 0 1=0 from by rw[show own_rst U 0 1=U 0 1 from rfl,u1];decide)];simp only[Option.bind_some,Option.toList_some,Option.toList_none,List.cons_append,List.nil_append,List.append_nil]
  refine own_ew (e2_0_503 hf2 ..) ?_
  rw[if_pos (show own_rst U 0 4=Int32.ofNat (own_st Its).length from L.1.1)]
  have z:own_bt (0:Int32)=fun _=>false:=funext fun v=>(own_bz 0).mp rfl v
  exact own_dbg hf1 hf2 hx (ks:=own_st Its) (by omega) (own_tag V) (g:=g) hp ep BB 100 0 0 (own_rst U) 0 0 0 0 0 rfl rfl (by rw[z];exact own_RT0 L C ⟨u1,u16⟩ (by omega)) fun v _ hb=>by
   rw[z] at hb
   have hb':false=true:=hb
   exact absurd hb' (by decide)
 |succ d ih=>
  intro Its S B hl hi
  obtain⟨BT,V,BB⟩:=B
  refine own_ew (e2_0_461 hf2 ..) ?_
  obtain⟨S1,e,B1⟩:=own_atG hf1 (show (own_tt Its).length<96 by omega) BT (k:=15) (a:=0) (by decide) (by decide) (fun h=>absurd h (by decide)) (fun _ _=>rfl)
  rw[if_pos (show 0<Int32.ofNat (d+1) from (own_lt (a:=0) (by decide) (by omega)).mpr (by omega)),e];simp only[Option.bind_some,Option.toList_some,Option.toList_none,List.cons_append,List.nil_append,List.append_nil]
  refine own_ew (e2_0_475 hf2 ..) ?_
  have est:own_st (Its++[(0,0,[(15,0)])])=own_st Its:=by rw[own_stA2,if_pos rfl,List.append_nil]
  have:=ih (Its++[(0,0,[(15,0)])]) S1 ⟨by rw[own_ttA];exact B1,own_vlA V ⟨Or.inl rfl,fun _=>⟨by omega,rfl⟩,fun h=>absurd h (by decide),fun h=>absurd h (by decide)⟩,by rw[est];exact BB⟩ (by rw[own_ttA,List.length_append];simp;omega) (by rw[List.length_append];simp;omega)
  rw[est] at this
  rw[show Int32.ofNat (d+1)+(-1)=Int32.ofNat d from own_kmp (d+1)]
  exact this
theorem own_bldL(hf1:Fx f1)(hf2:Fix2 ms1 ms2 iv1 431 nmax1 (some xs) f1 f2)(hx:xs.length<2147483648){nn:Nat}(hn:nn≤14){ns:Int32}(ens:ns=Int32.ofNat nn):∀r i pp Its d S x6 x7 x8 x9,i+r=nn→Its.length=i→pp≤1+2*i→own_BL Its d S x6 x7 x8 x9→(own_tt Its).length+d≤6*i→d≤3→∃W,f2 (0,60,[.ref 0,.ref 1,.int (Int32.ofNat pp),.int ns,.int (Int32.ofNat d),.int (Int32.ofNat (own_st Its).length),.int x6,.int x7,.int x8,.int x9,.int 1,.int (Int32.ofNat i)],[],(false,[S]))=some (some (.int 1),W):=by
 intro r
 induction r with
 |zero=>
  intro i pp Its d S x6 x7 x8 x9 h hi hp B hl hd
  refine own_ew (e2_0_60 hf2 ..) ?_
  rw[if_neg (by rw[ens,own_lt (by omega) (by omega)];omega)]
  exact own_clsL hf1 hf2 hx (pp:=pp) (by omega) rfl d Its S B (by omega) (by omega)
 |succ r ih=>
  intro i pp Its d S x6 x7 x8 x9 h hi hp B hl hd
  have sl:=own_stl Its
  obtain⟨BT,V,BB⟩:=B
  have and1:(1:Int32)&&&1=1:=rfl
  refine own_ew (e2_0_60 hf2 ..) ?_
  obtain⟨c,ec⟩:=own_cellF hf1 hf2 (kk:=pp) hx (by omega) [S]
  rw[if_pos (by rw[ens,own_lt (by omega) (by omega)];omega),ec,own_add1];simp only[Option.bind_some,Option.toList_some,Option.toList_none,List.cons_append,List.nil_append,List.append_nil]
  refine own_ew (e2_0_74 hf2 ..) ?_
  have oth:∃W,((f2 (1,0,[.ref 0,.int (Int32.ofNat (pp+1))],[],(false,[S]))).bind fun q=>f2 (0,114,[.ref 0,.ref 1,.int (Int32.ofNat (pp+1)+1),.int ns,.int (Int32.ofNat d),.int (Int32.ofNat (own_st Its).length),.int x6,.int x7,.int x8,.int x9,.int 1,.int (Int32.ofNat i),.int c],q.1.toList++[],q.2))=some (some (.int 1),W):=by
   obtain⟨e,ee⟩:=own_cellF hf1 hf2 (kk:=pp+1) hx (by omega) [S]
   rw[ee,own_add1];simp only[Option.bind_some,Option.toList_some,Option.toList_none,List.cons_append,List.nil_append,List.append_nil]
   refine own_ew (e2_0_114 hf2 ..) ?_
   generalize (XT.ushr e 3%9)-4=kc
   obtain⟨u,u8,eu⟩:=own_and7 e
   rw[eu]
   have uok:(2:Int32)=2→¬Int32.ofNat u<0∧Int32.ofNat u<8:=fun _=>⟨own_nneg (by omega),(own_lt (b:=8) (by omega) (by decide)).mpr u8⟩
   have asg:∃W,f2 (0,246,[.ref 0,.ref 1,.int (Int32.ofNat (pp+1+1)),.int ns,.int (Int32.ofNat d),.int (Int32.ofNat (own_st Its).length),.int x6,.int x7,.int x8,.int x9,.int 1,.int (Int32.ofNat i),.int c,.int e,.int (Int32.ofNat u),.int kc],[],(false,[S]))=some (some (.int 1),W):=by
    refine own_ew (e2_0_246 hf2 ..) ?_
    obtain⟨v,v8,ev⟩:=own_and7 (XT.ushr c 3)
    rw[ev]
    obtain⟨w0,w1,w2⟩:=own_vbits ⟨v,v8⟩
    have B6:∀s,own_bt (x6|||(1<<<(Int32.ofNat (own_st Its).length&&&31))) s=own_kb own_q6 (own_st Its++[(2,v)]) s:=own_kby own_q6 (by omega) rfl BB.1
    have qk:∀k,own_qb k (2,v)=v.testBit k:=fun k=>rfl
    have rest:∀y7 y8 y9,own_BB (own_st Its++[(2,v)]) (x6|||(1<<<(Int32.ofNat (own_st Its).length&&&31))) y7 y8 y9→∃W,((f1 (1,0,[.ref 0,.int 2,.int (Int32.ofNat v)],[],S)).bind fun q=>f2 (0,321,[.ref 0,.ref 1,.int (Int32.ofNat (pp+1+1)),.int ns,.int (Int32.ofNat d),.int (Int32.ofNat (own_st Its).length),.int (x6|||(1<<<(Int32.ofNat (own_st Its).length&&&31))),.int y7,.int y8,.int y9,.int 1,.int (Int32.ofNat i),.int c,.int e,.int (Int32.ofNat u),.int kc,.int (Int32.ofNat v)],q.1.toList++[.int 1],(false,[q.2])))=some (some (.int 1),W):=fun y7 y8 y9 BB'=>by
     obtain⟨S1,e1,B1⟩:=own_atG hf1 (show (own_tt Its).length<96 by omega) BT (k:=2) (a:=Int32.ofNat v) (by decide) (by decide) (fun _=>⟨own_nneg (by omega),(own_lt (b:=8) (by omega) (by decide)).mpr v8⟩) (fun _ h=>absurd rfl h)
     rw[e1];simp only[Option.bind_some,Option.toList_some,Option.toList_none,List.cons_append,List.nil_append,List.append_nil]
     refine own_ew (e2_0_321 hf2 ..) ?_
     obtain⟨S2,e2,B2⟩:=own_atG hf1 (by simp only[List.length_append,List.length_singleton];omega) B1 (k:=3) (a:=0) (by decide) (by decide) (fun h=>absurd h (by decide)) (fun _ _=>rfl)
     rw[e2,and1];simp only[Option.bind_some,Option.toList_some,Option.toList_none,List.cons_append,List.nil_append,List.append_nil]
     have fin:∀(r':List (Int32×Int32)) (S':MS),own_rhs r'→r'.length≤3→own_BT (own_tt Its++[(2,Int32.ofNat v)]++[(3,0)]++r'++[(4,0)]) S'→∀x17,∃W,f2 (0,449,[.ref 0,.ref 1,.int (Int32.ofNat (pp+1+1)),.int ns,.int (Int32.ofNat d),.int (Int32.ofNat (own_st Its).length),.int (x6|||(1<<<(Int32.ofNat (own_st Its).length&&&31))),.int y7,.int y8,.int y9,.int 1,.int (Int32.ofNat i),.int c,.int e,.int (Int32.ofNat u),.int kc,.int (Int32.ofNat v),.int x17],[.int 1,.int 1],(false,[S']))=some (some (.int 1),W):=fun r' S' hr hr3 B' x17=>by
      refine own_ew (e2_0_449 hf2 ..) ?_
      have est:own_st (Its++[(2,v,(2,Int32.ofNat v)::(3,0)::r'++[(4,0)])])=own_st Its++[(2,v)]:=by rw[own_stA2,if_neg (by simp)]
      have ett:own_tt (Its++[(2,v,(2,Int32.ofNat v)::(3,0)::r'++[(4,0)])])=own_tt Its++[(2,Int32.ofNat v)]++[(3,0)]++r'++[(4,0)]:=by rw[own_ttA];simp
      have:=ih (i+1) (pp+2) (Its++[(2,v,(2,Int32.ofNat v)::(3,0)::r'++[(4,0)])]) d S' (x6|||(1<<<(Int32.ofNat (own_st Its).length&&&31))) y7 y8 y9 (by omega) (by rw[List.length_append,List.length_singleton];omega) (by omega) ⟨by rw[ett];exact B',own_vlA V ⟨Or.inr (Or.inr ⟨v,r',rfl,v8,hr⟩),fun h=>absurd h (by simp),fun h=>absurd h (by simp),fun _=>rfl⟩,by rw[est];exact BB'⟩ (by rw[ett];simp only[List.length_append,List.length_singleton];omega) hd
      rw[est,List.length_append,List.length_singleton] at this
      rw[and1,own_add1,own_add1]
      exact this
     have end4:∀(r':List (Int32×Int32)) (S':MS),r'.length≤3→own_BT (own_tt Its++[(2,Int32.ofNat v)]++[(3,0)]++r') S'→∃S'',f1 (1,0,[.ref 0,.int 4,.int 0],[],S')=some (some (.int 1),S'')∧own_BT (own_tt Its++[(2,Int32.ofNat v)]++[(3,0)]++r'++[(4,0)]) S'':=fun r' S' hr3 B'=>
      own_atG hf1 (by simp only[List.length_append,List.length_singleton];omega) B' (k:=4) (a:=0) (by decide) (by decide) (fun h=>absurd h (by decide)) (fun _ _=>rfl)
     refine own_ew (e2_0_332 hf2 ..) ?_
     rw[and1]
     by_cases f0:XT.ushr e 8&&&3=0
     ·obtain⟨S3,e3,B3⟩:=own_atG hf1 (by simp only[List.length_append,List.length_singleton];omega) B2 (k:=1) (a:=kc) (by decide) (by decide) (fun h=>absurd h (by decide)) (fun h=>absurd rfl h)
      obtain⟨S4,e4,B4⟩:=end4 [(1,kc)] S3 (by simp) B3
      rw[if_pos f0,e3];simp only[Option.bind_some,Option.toList_some,Option.toList_none,List.cons_append,List.nil_append,List.append_nil]
      refine own_ew (e2_0_358 hf2 ..) ?_
      rw[e4,and1];simp only[Option.bind_some,Option.toList_some,Option.toList_none,List.cons_append,List.nil_append,List.append_nil]
      exact fin _ S4 (Or.inl ⟨kc,rfl⟩) (by simp) B4 _
     ·obtain⟨S3,e3,B3⟩:=own_atG hf1 (by simp only[List.length_append,List.length_singleton];omega) B2 (k:=2) (a:=Int32.ofNat u) (by decide) (by decide) uok (fun _ h=>absurd rfl h)
      rw[if_neg f0,e3];simp only[Option.bind_some,Option.toList_some,Option.toList_none,List.cons_append,List.nil_append,List.append_nil]
      refine own_ew (e2_0_373 hf2 ..) ?_
      rw[and1]
      by_cases f2':XT.ushr e 8&&&3<2
      ·obtain⟨S4,e4,B4⟩:=end4 [(2,Int32.ofNat u)] S3 (by simp) B3
       rw[if_pos f2',e4];simp only[Option.bind_some,Option.toList_some,Option.toList_none,List.cons_append,List.nil_append,List.append_nil]
       exact fin _ S4 (Or.inr (Or.inl ⟨_,rfl⟩)) (by simp) B4 _
      ·obtain⟨op,eop,hop⟩:=own_opF hf1 hf2 (XT.ushr e 10%5) [S3]
       have oop:own_op op:=by rcases hop with h | h | h | h | h<;>rw[h]<;>simp[own_op]
       have o12:op≠1∧op≠2∧¬op<1∧¬17<op:=by rcases hop with h | h | h | h | h<;>rw[h]<;>decide
       obtain⟨S4,e4,B4⟩:=own_atG hf1 (by simp only[List.length_append,List.length_singleton];omega) B3 (k:=op) (a:=0) o12.2.2.1 o12.2.2.2 (fun h=>absurd h o12.2.1) (fun _ _=>rfl)
       rw[if_neg f2',eop];simp only[Option.bind_some,Option.toList_some,Option.toList_none,List.cons_append,List.nil_append,List.append_nil]
       refine own_ew (e2_0_395 hf2 ..) ?_
       rw[e4];simp only[Option.bind_some,Option.toList_some,Option.toList_none,List.cons_append,List.nil_append,List.append_nil]
       refine own_ew (e2_0_399 hf2 ..) ?_
       rw[and1]
       by_cases f3:XT.ushr e 8&&&3=2
       ·obtain⟨S5,e5,B5⟩:=own_atG hf1 (by simp only[List.length_append,List.length_singleton];omega) B4 (k:=1) (a:=kc) (by decide) (by decide) (fun h=>absurd h (by decide)) (fun h=>absurd rfl h)
        obtain⟨S6,e6,B6'⟩:=end4 [(2,Int32.ofNat u),(op,0),(1,kc)] S5 (by simp) (by simpa using B5)
        rw[if_pos f3,e5];simp only[Option.bind_some,Option.toList_some,Option.toList_none,List.cons_append,List.nil_append,List.append_nil]
        refine own_ew (e2_0_417 hf2 ..) ?_
        rw[e6,and1];simp only[Option.bind_some,Option.toList_some,Option.toList_none,List.cons_append,List.nil_append,List.append_nil]
        exact fin _ S6 (Or.inr (Or.inr (Or.inl ⟨_,op,kc,rfl,oop⟩))) (by simp) B6' _
       ·obtain⟨w,w8,ew⟩:=own_and7 (XT.ushr e 13)
        obtain⟨S5,e5,B5⟩:=own_atG hf1 (by simp only[List.length_append,List.length_singleton];omega) B4 (k:=2) (a:=Int32.ofNat w) (by decide) (by decide) (fun _=>⟨own_nneg (by omega),(own_lt (b:=8) (by omega) (by decide)).mpr w8⟩) (fun _ h=>absurd rfl h)
        obtain⟨S6,e6,B6'⟩:=end4 [(2,Int32.ofNat u),(op,0),(2,Int32.ofNat w)] S5 (by simp) (by simpa using B5)
        rw[if_neg f3,ew,e5];simp only[Option.bind_some,Option.toList_some,Option.toList_none,List.cons_append,List.nil_append,List.append_nil]
        refine own_ew (e2_0_438 hf2 ..) ?_
        rw[e6,and1];simp only[Option.bind_some,Option.toList_some,Option.toList_none,List.cons_append,List.nil_append,List.append_nil]
        exact fin _ S6 (Or.inr (Or.inr (Or.inr ⟨_,op,_,rfl,oop⟩))) (by simp) B6' _
    have c2:∀y7 y8,(∀s,own_bt y7 s=own_kb (own_qb 0) (own_st Its++[(2,v)]) s)→(∀s,own_bt y8 s=own_kb (own_qb 1) (own_st Its++[(2,v)]) s)→∃W,f2 (0,296,[.ref 0,.ref 1,.int (Int32.ofNat (pp+1+1)),.int ns,.int (Int32.ofNat d),.int (Int32.ofNat (own_st Its).length),.int (x6|||(1<<<(Int32.ofNat (own_st Its).length&&&31))),.int y7,.int y8,.int x9,.int 1,.int (Int32.ofNat i),.int c,.int e,.int (Int32.ofNat u),.int kc,.int (Int32.ofNat v)],[],(false,[S]))=some (some (.int 1),W):=fun y7 y8 h7 h8=>by
     refine own_ew (e2_0_296 hf2 ..) ?_
     cases b:v.testBit 2
     ·rw[if_pos (w2.mpr b)]
      exact rest y7 y8 x9 ⟨B6,h7,h8,fun s=>by rw[own_kbn _ (show own_qb 2 (2,v)=false by rw[qk];exact b)];exact BB.2.2.2 s⟩
     ·rw[if_neg (fun h=>by rw[w2.mp h] at b;exact absurd b (by decide))]
      exact rest y7 y8 _ ⟨B6,h7,h8,own_kby _ (by omega) (show own_qb 2 (2,v)=true by rw[qk];exact b) BB.2.2.2⟩
    have c1:∀y7,(∀s,own_bt y7 s=own_kb (own_qb 0) (own_st Its++[(2,v)]) s)→∃W,f2 (0,280,[.ref 0,.ref 1,.int (Int32.ofNat (pp+1+1)),.int ns,.int (Int32.ofNat d),.int (Int32.ofNat (own_st Its).length),.int (x6|||(1<<<(Int32.ofNat (own_st Its).length&&&31))),.int y7,.int x8,.int x9,.int 1,.int (Int32.ofNat i),.int c,.int e,.int (Int32.ofNat u),.int kc,.int (Int32.ofNat v)],[],(false,[S]))=some (some (.int 1),W):=fun y7 h7=>by
     refine own_ew (e2_0_280 hf2 ..) ?_
     cases b:v.testBit 1
     ·rw[if_pos (w1.mpr b)]
      exact c2 y7 x8 h7 fun s=>by rw[own_kbn _ (show own_qb 1 (2,v)=false by rw[qk];exact b)];exact BB.2.2.1 s
     ·rw[if_neg (fun h=>by rw[w1.mp h] at b;exact absurd b (by decide))]
      exact c2 y7 _ h7 (own_kby _ (by omega) (show own_qb 1 (2,v)=true by rw[qk];exact b) BB.2.2.1)
    cases b:v.testBit 0
    ·rw[if_pos (w0.mpr b)]
     exact c1 x7 fun s=>by rw[own_kbn _ (show own_qb 0 (2,v)=false by rw[qk];exact b)];exact BB.2.1 s
    ·rw[if_neg (fun h=>by rw[w0.mp h] at b;exact absurd b (by decide))]
     exact c1 _ (own_kby _ (by omega) (show own_qb 0 (2,v)=true by rw[qk];exact b) BB.2.1)
   have hdd:d≤2→∀kw:Int32,(kw=16∨kw=17)→∃W,((f1 (1,0,[.ref 0,.int kw,.int 0],[],S)).bind fun q=>f2 (0,169,[.ref 0,.ref 1,.int (Int32.ofNat (pp+1+1)),.int ns,.int (Int32.ofNat d),.int (Int32.ofNat (own_st Its).length),.int x6,.int x7,.int x8,.int x9,.int 1,.int (Int32.ofNat i),.int c,.int e,.int (Int32.ofNat u),.int kc],q.1.toList++[.int 1],(false,[q.2])))=some (some (.int 1),W):=fun d2 kw hkw=>by
    have k12:kw≠1∧kw≠2∧¬kw<1∧¬17<kw:=by rcases hkw with h | h<;>rw[h]<;>decide
    obtain⟨S1,e1,B1⟩:=own_atG hf1 (show (own_tt Its).length<96 by omega) BT (k:=kw) (a:=0) k12.2.2.1 k12.2.2.2 (fun h=>absurd h k12.2.1) (fun _ _=>rfl)
    rw[e1];simp only[Option.bind_some,Option.toList_some,Option.toList_none,List.cons_append,List.nil_append,List.append_nil]
    refine own_ew (e2_0_169 hf2 ..) ?_
    obtain⟨S2,e2,B2⟩:=own_atG hf1 (by simp only[List.length_append,List.length_singleton];omega) B1 (k:=2) (a:=Int32.ofNat u) (by decide) (by decide) uok (fun _ h=>absurd rfl h)
    rw[e2,and1];simp only[Option.bind_some,Option.toList_some,Option.toList_none,List.cons_append,List.nil_append,List.append_nil]
    refine own_ew (e2_0_181 hf2 ..) ?_
    rw[and1]
    have cmpc:∀cmp:Int32,(cmp=10∨cmp=11)→∃W,((f1 (1,0,[.ref 0,.int cmp,.int 0],[],S2)).bind fun q=>f2 (0,208,[.ref 0,.ref 1,.int (Int32.ofNat (pp+1+1)),.int ns,.int (Int32.ofNat d),.int (Int32.ofNat (own_st Its).length),.int x6,.int x7,.int x8,.int x9,.int 1,.int (Int32.ofNat i),.int c,.int e,.int (Int32.ofNat u),.int kc],q.1.toList++[.int 1],(false,[q.2])))=some (some (.int 1),W):=fun cmp hcmp=>by
     have c12:cmp≠1∧cmp≠2∧¬cmp<1∧¬17<cmp:=by rcases hcmp with h | h<;>rw[h]<;>decide
     obtain⟨S3,e3,B3⟩:=own_atG hf1 (by simp only[List.length_append,List.length_singleton];omega) B2 (k:=cmp) (a:=0) c12.2.2.1 c12.2.2.2 (fun h=>absurd h c12.2.1) (fun _ _=>rfl)
     rw[e3];simp only[Option.bind_some,Option.toList_some,Option.toList_none,List.cons_append,List.nil_append,List.append_nil]
     refine own_ew (e2_0_208 hf2 ..) ?_
     obtain⟨S4,e4,B4⟩:=own_atG hf1 (by simp only[List.length_append,List.length_singleton];omega) B3 (k:=1) (a:=kc+4) (by decide) (by decide) (fun h=>absurd h (by decide)) (fun h=>absurd rfl h)
     rw[e4,and1];simp only[Option.bind_some,Option.toList_some,Option.toList_none,List.cons_append,List.nil_append,List.append_nil]
     refine own_ew (e2_0_222 hf2 ..) ?_
     obtain⟨S5,e5,B5⟩:=own_atG hf1 (by simp only[List.length_append,List.length_singleton];omega) B4 (k:=14) (a:=0) (by decide) (by decide) (fun h=>absurd h (by decide)) (fun _ _=>rfl)
     rw[e5,and1];simp only[Option.bind_some,Option.toList_some,Option.toList_none,List.cons_append,List.nil_append,List.append_nil]
     refine own_ew (e2_0_234 hf2 ..) ?_
     have est:own_st (Its++[(1,0,(kw,0)::[(2,Int32.ofNat u),(cmp,0),(1,kc+4)]++[(14,0)])])=own_st Its++[(1,0)]:=by rw[own_stA2,if_neg (by simp)]
     have ett:own_tt (Its++[(1,0,(kw,0)::[(2,Int32.ofNat u),(cmp,0),(1,kc+4)]++[(14,0)])])=own_tt Its++[(kw,0)]++[(2,Int32.ofNat u)]++[(cmp,0)]++[(1,kc+4)]++[(14,0)]:=by rw[own_ttA];simp
     have:=ih (i+1) (pp+2) (Its++[(1,0,(kw,0)::[(2,Int32.ofNat u),(cmp,0),(1,kc+4)]++[(14,0)])]) (d+1) S5 x6 x7 x8 x9 (by omega) (by rw[List.length_append,List.length_singleton];omega) (by omega) ⟨by rw[ett];exact B5,own_vlA V ⟨Or.inr (Or.inl ⟨kw,_,cmp,_,rfl,hkw,hcmp⟩),fun h=>absurd h (by simp),fun _=>⟨d2,rfl⟩,fun h=>absurd h (by simp)⟩,by
      rw[est]
      exact⟨fun s=>by rw[own_kbn _ rfl];exact BB.1 s,fun s=>by rw[own_kbn _ rfl];exact BB.2.1 s,fun s=>by rw[own_kbn _ rfl];exact BB.2.2.1 s,fun s=>by rw[own_kbn _ rfl];exact BB.2.2.2 s⟩⟩ (by rw[ett];simp only[List.length_append,List.length_singleton];omega) (by omega)
     rw[est,List.length_append,List.length_singleton] at this
     rw[and1,own_add1,own_add1,own_add1]
     exact this
    by_cases z:XT.ushr e 7&&&1=0
    ·rw[if_pos z];exact cmpc 10 (Or.inl rfl)
    ·rw[if_neg z];exact cmpc 11 (Or.inr rfl)
   by_cases d3:d<3
   ·rw[if_pos (show Int32.ofNat d<3 from (own_lt (b:=3) (by omega) (by decide)).mpr d3)]
    by_cases c1:c&&&3=1
    ·rw[if_pos c1]
     by_cases c4:c&&&4=0
     ·rw[if_pos c4];exact hdd (by omega) 16 (Or.inl rfl)
     ·rw[if_neg c4];exact hdd (by omega) 17 (Or.inr rfl)
    ·rw[if_neg c1];exact asg
   ·rw[if_neg (show ¬Int32.ofNat d<3 from fun h=>d3 ((own_lt (b:=3) (by omega) (by decide)).mp h))];exact asg
  by_cases d0:0<d
  ·rw[if_pos (show 0<Int32.ofNat d from (own_lt (a:=0) (by decide) (by omega)).mpr d0)]
   by_cases c3:c&&&3=0
   ·obtain⟨S1,e,B1⟩:=own_atG hf1 (show (own_tt Its).length<96 by omega) BT (k:=15) (a:=0) (by decide) (by decide) (fun h=>absurd h (by decide)) (fun _ _=>rfl)
    rw[if_pos c3,e];simp only[Option.bind_some,Option.toList_some,Option.toList_none,List.cons_append,List.nil_append,List.append_nil]
    refine own_ew (e2_0_97 hf2 ..) ?_
    have est:own_st (Its++[(0,0,[(15,0)])])=own_st Its:=by rw[own_stA2,if_pos rfl,List.append_nil]
    obtain⟨d',rfl⟩:∃d',d=d'+1:=⟨d-1,by omega⟩
    have:=ih (i+1) (pp+1) (Its++[(0,0,[(15,0)])]) d' S1 x6 x7 x8 x9 (by omega) (by rw[List.length_append,List.length_singleton];omega) (by omega) ⟨by rw[own_ttA];exact B1,own_vlA V ⟨Or.inl rfl,fun _=>⟨by omega,rfl⟩,fun h=>absurd h (by decide),fun h=>absurd h (by decide)⟩,by rw[est];exact BB⟩ (by rw[own_ttA,List.length_append];simp;omega) (by omega)
    rw[est] at this
    rw[and1,show Int32.ofNat (d'+1)+(-1)=Int32.ofNat d' from own_kmp (d'+1),own_add1]
    exact this
   ·rw[if_neg c3];exact oth
  ·rw[if_neg (show ¬0<Int32.ofNat d from fun h=>d0 ((own_lt (a:=0) (by decide) (by omega)).mp h))];exact oth
end Law
theorem own_mod14(y:Int32):∃nn,nn≤14∧1+(y&&&15)%14=Int32.ofNat nn:=by
 obtain⟨k,hk,e⟩:=own_andk y (m:=15) (by omega)
 have e':y&&&15=Int32.ofNat k:=e
 have h:∀k:Fin 16,1+Int32.ofNat k.val%14=Int32.ofNat (1+k.val%14):=by decide
 exact⟨1+k%14,by omega,by rw[e'];exact h ⟨k,by omega⟩⟩
theorem own_run{f1:FT1}{f2:FT2}{xs:List Int32}(hf1:Fx f1)(hf2:Fix2 ms1 ms2 iv1 431 nmax1 (some xs) f1 f2)(hxs:xs.length<2147483648)(hlen:own_len xs):∃W,f2 (0,0,[.ref 0],[],(false,[]))=some (some (.int 1),W):=by
 refine own_ew (e2_0_0 hf2) ?_
 have cell:∃v,f2 (1,0,[.ref 0,.int 0],[],(true,[]))=some (some (.int v),(true,[])):=by
  have E:=e2_1r_0 hf2 0 []
  by_cases q:(0:Int32)<Int32.ofNat xs.length
  ·rw[if_pos q] at E
   by_cases b:inb 0 xs.length=true
   ·rw[if_pos b] at E;exact⟨_,E⟩
   ·exact absurd (own_inb_of (by decide) q hxs) b
  ·rw[if_neg q] at E;exact⟨_,E⟩
 obtain⟨c0,ec0⟩:=cell
 rw[ec0];simp only[Option.bind_some,Option.toList_some,Option.toList_none,List.cons_append,List.nil_append,List.append_nil]
 refine own_ew (e2_0_10 hf2 ..) ?_
 obtain⟨S,e,s0,s1,s3⟩:=own_mkG hf1 (2+XT.ushr c0 4%7) (iniS iv1)
 rw[e];simp only[Option.bind_some,Option.toList_some,Option.toList_none,List.cons_append,List.nil_append,List.append_nil]
 refine own_ew (e2_0_19 hf2 ..) ?_
 obtain⟨c,ec⟩:=own_cellF hf1 hf2 (kk:=0) hxs (by omega) [S]
 have ec':f2 (1,0,[.ref 0,.int 0],[],(false,[S]))=some (some (.int c),(false,[S])):=ec
 rw[ec'];simp only[Option.bind_some,Option.toList_some,Option.toList_none,List.cons_append,List.nil_append,List.append_nil]
 refine own_ew (e2_0_28 hf2 ..) ?_
 obtain⟨nn,hn,en⟩:=own_mod14 c
 have z:∀v,own_bt (0:Int32) v=false:=fun v=>(own_bz 0).mp rfl v
 exact own_bldL hf1 hf2 hxs hn en nn 0 1 [] 0 S 0 0 0 0 (by omega) rfl (by omega) ⟨⟨s1,s0,s3,fun k t h=>absurd h (by simp[own_tt])⟩,rfl,fun s=>by rw[z];rfl,fun s=>by rw[z];rfl,fun s=>by rw[z];rfl,fun s=>by rw[z];rfl⟩ (by simp[own_tt]) (by omega)
theorem own_script{s:State}{w0:Value}(hn:narrow_1.value #[w0] s none s []=some true)(hr:rest_1_c.before #[w0] s=true):∃(sa:Nat) (cell:Cell) (xs:List Int32),w0 = .ref sa∧sa<s.heap.size∧xs.length<2147483648∧own_len xs∧Arr s s.heap sa cell .int∧cell.slots.size=xs.length∧∀i,i<xs.length→cell.slots[i]? = some (.int (xs.getD i 0)):=by
 obtain⟨n1,n2⟩:=and_e hn
 obtain⟨r1,r2⟩:=and_e (Cond.before_iff.mp hr)
 obtain⟨b,xs,hb,hx⟩:=State.ints_of_pre (t:= .arg 0) rfl (Cond.before_iff.mpr n1) (Cond.before_iff.mpr r1) (Cond.before_iff.mpr r2)
 have hw:w0 = .ref b:=by simpa [Term.eval] using hb
 subst hw
 have hl:=hx.small
 have he:=hx.length_eval (t:= .arg 0) hb
 rw[Cond.le_ints he rfl] at n2
 obtain⟨cell,h1,h2,h3,h4⟩:=hx
 obtain⟨hc,-,-,-⟩:=State.arrayAt?_spec h1
 obtain⟨-,hu⟩:=Cond.arrayOf_spec (Cond.before_iff.mpr n1) hb hc
 have hsz:cell.slots.size=xs.length:=by rw[←Array.length_toList,h2,List.length_map]
 refine⟨b,cell,xs,rfl,(Array.getElem?_eq_some_iff.mp hc).1,hl,?_,⟨hc,h3,hu⟩,hsz,fun i hi=>?_⟩
 ·have q:xs.length.toInt32≤260:=by simpa using n2
  rw[Int32.le_iff_toInt_le] at q
  have e1:xs.length.toInt32.toInt=xs.length:=Int32.toInt_ofNat_of_lt hl
  have e2:(260:Int32).toInt=260:=rfl
  rw[e1,e2] at q
  show xs.length≤260
  omega
 ·rw[←Array.getElem?_toList,h2]
  simp[hi,List.getD]
theorem own_met(l:Launch)(Z:State)(a0:Array Value)(hw:∀d∈tables_1,d.before a0 Z=true)(ws:List Jvm.Cond)(h:Heap)(sa:Nat)(xs:List Int32)(hxs:xs.length<2147483648)(hlen:own_len xs)(hsa:sa<h.size)(cell:Cell)(A:Arr Z h sa cell .int)(hs:cell.slots.size=xs.length)(he:∀i,i<xs.length→cell.slots[i]? = some (.int (xs.getD i 0))) :
  MetFree l x (head1 (Jvm.Cond.code x code maxLocals ret::ws) room_1) (fun a U=>a = #[.ref sa]∧Z.Warmed39 U.vm∧U.heap=h) (fun _ _ _ _ _=>True)
   (fun _ U o U'=>∃v L,o = .returned v∧(v=some (.int 1)∧Fr h.size L)∧FrameEnd U o U' L room_1.cells room_1.slots):=
 law_of (sc:=some xs) (sa:=sa) (nmax:=nmax1) (as:=[.ref 0]) own_d1 own_g1 own_r1 own_d2 own_g2 own_rv own_rc own_rs own_h1 own_h2 hw rfl (Nat.le_of_ble_eq_true rfl) (Nat.le_of_ble_eq_true rfl) (Nat.le_of_ble_eq_true rfl) (Nat.le_of_ble_eq_true rfl) (Nat.le_of_ble_eq_true rfl) (fun ys q=>by cases q;exact⟨hsa,hxs,cell,A,hs,he⟩)
  (fun f1 f2 hf1 hf2=>own_run hf1 hf2 hxs hlen) ws
theorem comes_1{Post:Tables→Env→Array Value→State→Outcome→State→Prop}(hpost:∀tb e args s v u,(limb_1_1.after args s (.returned v) u=true∧limb_1_2.after args s (.returned v) u=true∧True)→FrameEnd s (.returned v) u (Jvm.fieldLocs frame_1_writes args s++Jvm.arrayLocs frame_1_arrays args s++Jvm.staticLocs frame_1_statics s) 72 12224→Post tb e args s (.returned v) u) :
  ArmFor flags0 classFile x code maxLocals ret World_1 tables_1 room_1 Calls_1 rest_1 Pre_1 Post:=by
 intro l hfl _ _ p e ha hc hk s m args below hf hA hF happ hP
 obtain⟨hcalls,hrest,hpre⟩:=hP
 obtain⟨-,-,-,hnamed,-,-,-,hat⟩:=(Spec.applies_iff hf).mp happ
 obtain⟨hg,hn⟩:=and_e (Cond.before_iff.mp (show (Jvm.Cond.and given_1 narrow_1).before args s=true from hpre))
 obtain⟨g0,q0⟩:=and_e hg
 obtain⟨w0,rfl⟩:∃w0:Value,args = #[w0]:=by
  have hs:args.size=1:=by simpa [Cond.value,given_1] using g0
  obtain⟨L⟩:=args
  match L,hs with
  |[w0],_=>exact⟨w0,rfl⟩
 have hw:=fun d (hd:d∈tables_1)=>atoms_spec (ws:=Jvm.Cond.code x code maxLocals ret::tables_1) hat d (List.mem_cons_of_mem _ hd)
 obtain⟨sa,cell,xs,rfl,hsa,hxs,hlen,A,hz,he⟩:=own_script hn (show rest_1_c.before _ _=true from hrest)
 obtain⟨n,o,h1,h2,h3,_,L,rfl,⟨rfl,N⟩,hq⟩:=own_met l s _ hw tables_1 s.heap sa xs hxs hlen hsa cell A hz he p e ha hc hk s m _ below hf ((Spec.applies_iff_loose hf).mp happ).1 ⟨rfl,State.Warmed39.refl s,rfl⟩ trivial
 refine⟨n,_,h1,h2,h3,hpost _ _ _ _ _ _ ⟨Cond.after_iff.mpr rfl,Cond.after_iff.mpr (eq_i res_at (Term.int_eval (1)) rfl),trivial⟩ ⟨hq.1,hq.2.1,(hq.2.2.sift fun y hy=>Or.inr (N y hy)).mono (Nat.le_of_ble_eq_true rfl) (Nat.le_of_ble_eq_true rfl)⟩⟩
theorem main_1_1:Claimed_1_1:=comes_1 fun _ _ _ _ _ _ h hF=>⟨h.1,hF⟩
theorem main_1_2:Claimed_1_2:=comes_1 fun _ _ _ _ _ _ h hF=>⟨h.2.1,hF⟩
end Jvm.Pilot.@@N@@
namespace Jvm.Pilot.@@N@@
open Jvm Jvm.ClassFile Sem Op Lib Jvm.Free Jvm.Stand Jvm.Pilot.@@N@@.Jvm.D
/-! MADE BY PROGRAM (witnessworld.py) out of the Statement's table words and the real class files: 11 classes; the members and pool entries that the words name. The judged class is class 1, her method 6. -/
namespace start1
open Jvm.ClassFile
def u (s : String) : CpInfo := .utf8 (stringToUtf16 s)
/-- a pool by its gaps: so many unusable entries, then the entry; so many at the end -/
def gap : Nat → List CpInfo → List CpInfo
  | 0, r => r
  | n + 1, r => .unusable :: gap n r
def poolList (es : List (Nat × CpInfo)) (last : Nat) : List CpInfo := es.foldr (fun e r => gap e.1 (e.2 :: r)) (gap last [])
def pool (es : List (Nat × CpInfo)) (last : Nat) : Array CpInfo := ⟨poolList es last⟩
def fileOf (pool : Array CpInfo) (this : Nat) (attrs : Array Attribute := #[]) (ms : Array MethodInfo := #[]) (fl : Nat := 33) (sup : Nat := 0) (ifs : Array Nat := #[]) (fds : Array FieldInfo := #[]) : ClassFile where
  minorVersion := 0
  majorVersion := 65
  constantPool := pool
  accessFlags := fl
  thisClass := this
  superClass := sup
  interfaces := ifs
  fields := fds
  methods := ms
  attributes := attrs
def plain (name : String) (sup : Option ClassId) : Class where
  name := name
  kind := .ordinary
  loader := none
  accessFlags := 33
  super := sup
  interfaces := #[]
  cf := none
  fields := #[]
  methods := #[]
  instanceTypes := #[]
  staticTypes := #[]
  resolved := #[]
  callSites := []
  init := .initialized
  statics := none
  mirror := none

def pool0 : Array CpInfo := pool [(5, u "<init>"), (0, u "()V"), (1, .class_ 10), (1, u "java/lang/Object")] 113

def k0c0 : Code := { maxStack := 0, maxLocals := 1, code := object_method_1_code, exceptionTable := #[], attributes := #[] }
def k0m0 : Method := { name := "<init>", desc := "()V", sig := { parameters := [], returnType := none }, accessFlags := 1, code := some k0c0 }
/-- java/lang/Object -/
def k0 : Class := { plain "java/lang/Object" none with
  accessFlags := 33
  interfaces := #[]
  cf := some (fileOf pool0 8 #[] #[{ accessFlags := 1, nameIndex := 5, descriptorIndex := 6, attributes := #[] }] 33 0 #[] #[])
  fields := #[]
  methods := #[k0m0]
  instanceTypes := #[]
  staticTypes := #[]
  resolved := Array.replicate 124 none
  statics := none }

def pool1 : Array CpInfo := pool [(2, .class_ 4), (1, u "java/lang/Object"), (0, u "<init>"), (0, u "()V"), (0, .long 18446744069414584320), (1, .long 4294967295), (1, .methodref 12 13), (0, .class_ 14), (0, .nameAndType 15 16), (0, u "LocListDebugOwnLaw"), (0, u "getHalf"), (0, u "(JI)I"), (0, .class_ 18), (0, u "LocListDebug"), (0, .methodref 12 20), (0, .nameAndType 21 22), (0, u "cell"), (0, u "([II)I"), (0, .methodref 17 24), (0, .nameAndType 5 25), (0, u "(I)V"), (0, .methodref 17 27), (0, .nameAndType 28 29), (0, u "addToken"), (0, u "(II)Z"), (0, .methodref 12 31), (0, .nameAndType 32 33), (0, u "opOf"), (0, u "(I)I"), (0, .methodref 17 35), (0, .nameAndType 36 37), (0, u "compile"), (0, u "()I"), (0, .methodref 17 39), (0, .nameAndType 40 37), (0, u "statementCount"), (0, .methodref 17 42), (0, .nameAndType 43 44), (0, u "isAvailable"), (0, u "(I)Z"), (0, .methodref 17 46), (0, .nameAndType 47 33), (0, u "value"), (0, .methodref 12 49), (0, .nameAndType 50 51), (0, u "get"), (0, u "(JJJJI)I"), (0, .methodref 17 53), (0, .nameAndType 54 55), (0, u "restart"), (0, u "()Z"), (0, .methodref 17 57), (0, .nameAndType 58 37), (0, u "where"), (0, .methodref 17 60), (0, .nameAndType 61 33), (0, u "run"), (0, .methodref 17 63), (0, .nameAndType 64 37), (0, u "step"), (0, .methodref 17 66), (0, .nameAndType 67 37), (0, u "lastVar"), (0, .methodref 17 69), (0, .nameAndType 70 37), (0, u "lastValue"), (0, .methodref 12 72), (0, .nameAndType 73 74), (0, u "putHalf"), (0, u "(JII)J"), (3, u "law"), (0, u "([I)Z")] 4

def k1m0 : Method := { name := "<init>", desc := "()V", sig := { parameters := [], returnType := none }, accessFlags := 1, code := none }
def k1c1 : Code := { maxStack := 2, maxLocals := 2, code := method_2_code, exceptionTable := #[], attributes := #[] }
def k1m1 : Method := { name := "cell", desc := "([II)I", sig := { parameters := [(.array .int), .int], returnType := some .int }, accessFlags := 10, code := some k1c1 }
def k1c2 : Code := { maxStack := 3, maxLocals := 3, code := method_3_code, exceptionTable := #[], attributes := #[] }
def k1m2 : Method := { name := "getHalf", desc := "(JI)I", sig := { parameters := [.long, .int], returnType := some .int }, accessFlags := 10, code := some k1c2 }
def k1c3 : Code := { maxStack := 6, maxLocals := 4, code := method_4_code, exceptionTable := #[], attributes := #[] }
def k1m3 : Method := { name := "putHalf", desc := "(JII)J", sig := { parameters := [.long, .int, .int], returnType := some .long }, accessFlags := 10, code := some k1c3 }
def k1c4 : Code := { maxStack := 4, maxLocals := 11, code := method_5_code, exceptionTable := #[], attributes := #[] }
def k1m4 : Method := { name := "get", desc := "(JJJJI)I", sig := { parameters := [.long, .long, .long, .long, .int], returnType := some .int }, accessFlags := 10, code := some k1c4 }
def k1c5 : Code := { maxStack := 2, maxLocals := 1, code := method_6_code, exceptionTable := #[], attributes := #[] }
def k1m5 : Method := { name := "opOf", desc := "(I)I", sig := { parameters := [.int], returnType := some .int }, accessFlags := 10, code := some k1c5 }
def k1c6 : Code := { maxStack := 10, maxLocals := 26, code := code, exceptionTable := #[], attributes := #[] }
def k1m6 : Method := { name := "law", desc := "([I)Z", sig := { parameters := [(.array .int)], returnType := some .boolean }, accessFlags := 9, code := some k1c6 }
/-- LocListDebugOwnLaw -/
def k1 : Class := { plain "LocListDebugOwnLaw" (some 0) with
  accessFlags := 49
  interfaces := #[]
  cf := some (fileOf pool1 12 #[] #[{ accessFlags := 1, nameIndex := 5, descriptorIndex := 6, attributes := #[] }, { accessFlags := 10, nameIndex := 21, descriptorIndex := 22, attributes := #[] }, { accessFlags := 10, nameIndex := 15, descriptorIndex := 16, attributes := #[] }, { accessFlags := 10, nameIndex := 73, descriptorIndex := 74, attributes := #[] }, { accessFlags := 10, nameIndex := 50, descriptorIndex := 51, attributes := #[] }, { accessFlags := 10, nameIndex := 32, descriptorIndex := 33, attributes := #[] }, { accessFlags := 9, nameIndex := 78, descriptorIndex := 79, attributes := #[] }] 49 2 #[] #[])
  fields := #[]
  methods := #[k1m0, k1m1, k1m2, k1m3, k1m4, k1m5, k1m6]
  instanceTypes := #[]
  staticTypes := #[]
  resolved := Array.replicate 84 none
  statics := none }

def pool2 : Array CpInfo := pool [(1, .methodref 2 3), (0, .class_ 4), (0, .nameAndType 5 6), (0, u "java/lang/Object"), (0, u "<init>"), (0, u "()V"), (0, .fieldref 8 9), (0, .class_ 10), (0, .nameAndType 11 12), (0, u "LocListDebug"), (0, u "MAX_STMTS"), (0, u "I"), (0, .fieldref 8 14), (0, .nameAndType 15 12), (0, u "CODE_MAX"), (0, .fieldref 8 17), (0, .nameAndType 18 12), (0, u "MEM_SIZE"), (0, .fieldref 8 20), (0, .nameAndType 21 12), (0, u "STACK_MAX"), (0, .fieldref 8 23), (0, .nameAndType 24 12), (0, u "BLOCK_MAX"), (0, .fieldref 8 26), (0, .nameAndType 27 12), (0, u "LOC_MAX"), (0, .fieldref 8 29), (0, .nameAndType 30 12), (0, u "SPILL_BASE"), (0, .fieldref 8 32), (0, .nameAndType 33 12), (0, u "I_LDI"), (0, .fieldref 8 35), (0, .nameAndType 36 12), (0, u "I_LD"), (0, .fieldref 8 38), (0, .nameAndType 39 12), (0, u "I_ST"), (0, .fieldref 8 41), (0, .nameAndType 42 12), (0, u "I_STI"), (0, .fieldref 8 44), (0, .nameAndType 45 12), (0, u "I_OP"), (0, .fieldref 8 47), (0, .nameAndType 48 12), (0, u "I_OPI"), (0, .fieldref 8 50), (0, .nameAndType 51 12), (0, u "I_NEG"), (0, .fieldref 8 53), (0, .nameAndType 54 12), (0, u "I_STOP"), (0, .fieldref 8 56), (0, .nameAndType 57 12), (0, u "I_BR"), (0, .fieldref 8 59), (0, .nameAndType 60 12), (0, u "I_BRK"), (0, .fieldref 8 62), (0, .nameAndType 63 12), (0, u "OP_NEG"), (0, .fieldref 8 65), (0, .nameAndType 66 12), (0, u "OP_PAREN"), (0, .fieldref 8 68), (0, .nameAndType 69 12), (0, u "E_CONST"), (0, .fieldref 8 71), (0, .nameAndType 72 12), (0, u "E_VAR"), (0, .fieldref 8 74), (0, .nameAndType 75 12), (0, u "E_REG"), (0, .fieldref 8 77), (0, .nameAndType 78 12), (0, u "E_SLOT"), (0, .fieldref 8 80), (0, .nameAndType 81 12), (0, u "L_NONE"), (0, .fieldref 8 83), (0, .nameAndType 84 12), (0, u "L_SLOT"), (0, .fieldref 8 86), (0, .nameAndType 87 12), (0, u "L_CONST"), (0, .fieldref 8 89), (0, .nameAndType 90 12), (0, u "L_REG"), (0, .fieldref 8 92), (0, .nameAndType 93 12), (0, u "P_STMT"), (0, .fieldref 8 95), (0, .nameAndType 96 12), (0, u "P_ASSIGN"), (0, .fieldref 8 98), (0, .nameAndType 99 12), (0, u "P_OPERAND"), (0, .fieldref 8 101), (0, .nameAndType 102 12), (0, u "P_OPERATOR"), (0, .fieldref 8 104), (0, .nameAndType 105 106), (0, u "tokKind"), (0, u "[I"), (0, .fieldref 8 108), (0, .nameAndType 109 106), (0, u "tokArg"), (0, .fieldref 8 111), (0, .nameAndType 112 106), (0, u "stKind"), (0, .fieldref 8 114), (0, .nameAndType 115 106), (0, u "stVar"), (0, .fieldref 8 117), (0, .nameAndType 118 106), (0, u "stParent"), (0, .fieldref 8 120), (0, .nameAndType 121 106), (0, u "stPrev"), (0, .fieldref 8 123), (0, .nameAndType 124 106), (0, u "stNext"), (0, .fieldref 8 126), (0, .nameAndType 127 106), (0, u "stFirst"), (0, .fieldref 8 129), (0, .nameAndType 130 106), (0, u "stStart"), (0, .fieldref 8 132), (0, .nameAndType 133 106), (0, u "stTerm"), (0, .fieldref 8 135), (0, .nameAndType 136 106), (0, u "stSucc"), (0, .fieldref 8 138), (0, .nameAndType 139 106), (0, u "stMask"), (0, .fieldref 8 141), (0, .nameAndType 142 106), (0, u "stResKind"), (0, .fieldref 8 144), (0, .nameAndType 145 106), (0, u "stResVal"), (0, .fieldref 8 147), (0, .nameAndType 148 106), (0, u "stDef"), (0, .fieldref 8 150), (0, .nameAndType 151 152), (0, u "brk"), (0, u "[Z"), (0, .fieldref 8 154), (0, .nameAndType 155 106), (0, u "locKind"), (0, .fieldref 8 157), (0, .nameAndType 158 106), (0, u "locVal"), (0, .fieldref 8 160), (0, .nameAndType 161 106), (0, u "cOp"), (0, .fieldref 8 163), (0, .nameAndType 164 106), (0, u "cA"), (0, .fieldref 8 166), (0, .nameAndType 167 106), (0, u "cB"), (0, .fieldref 8 169), (0, .nameAndType 170 106), (0, u "cC"), (0, .fieldref 8 172), (0, .nameAndType 173 106), (0, u "mem"), (0, .fieldref 8 175), (0, .nameAndType 176 106), (0, u "reg"), (0, .fieldref 8 178), (0, .nameAndType 179 106), (0, u "blkOwner"), (0, .fieldref 8 181), (0, .nameAndType 182 106), (0, u "blkLast"), (0, .fieldref 8 184), (0, .nameAndType 185 106), (0, u "entKind"), (0, .fieldref 8 187), (0, .nameAndType 188 106), (0, u "entVal"), (0, .fieldref 8 190), (0, .nameAndType 191 106), (0, u "regOwner"), (0, .fieldref 8 193), (0, .nameAndType 194 106), (0, u "opStk"), (0, .fieldref 8 196), (0, .nameAndType 197 152), (0, u "cmpSeen"), (0, .fieldref 8 199), (0, .nameAndType 200 12), (0, u "regCount"), (0, .methodref 8 202), (0, .nameAndType 203 6), (0, u "clearAll"), (0, .fieldref 8 205), (0, .nameAndType 206 207), (0, u "running"), (0, u "Z"), (0, .fieldref 8 209), (0, .nameAndType 210 12), (0, u "tokCount"), (0, .methodref 8 212), (0, .nameAndType 213 214), (0, u "parseAll"), (0, u "()I"), (0, .fieldref 8 216), (0, .nameAndType 217 12), (0, u "errPos"), (0, .fieldref 8 219), (0, .nameAndType 220 12), (0, u "stmtCount"), (0, .fieldref 8 222), (0, .nameAndType 223 12), (0, u "codeLen"), (0, .methodref 8 225), (0, .nameAndType 226 6), (0, u "linkStatements"), (0, .methodref 8 228), (0, .nameAndType 229 6), (0, u "buildLocationLists"), (0, .methodref 8 231), (0, .nameAndType 232 6), (0, u "clearBreaks"), (0, .methodref 8 234), (0, .nameAndType 235 6), (0, u "restartMachine"), (0, .fieldref 8 237), (0, .nameAndType 238 12), (0, u "cur"), (0, .methodref 8 240), (0, .nameAndType 241 6), (0, u "stepOnce"), (0, .methodref 8 243), (0, .nameAndType 244 245), (0, u "breakAt"), (0, u "(I)Z"), (0, .fieldref 8 247), (0, .nameAndType 248 12), (0, u "steps"), (0, .methodref 8 250), (0, .nameAndType 251 214), (0, u "stopIndex"), (0, .methodref 8 253), (0, .nameAndType 254 245), (0, u "isAvailable"), (0, .methodref 8 256), (0, .nameAndType 257 258), (0, u "readLocation"), (0, u "(II)I"), (0, .fieldref 8 260), (0, .nameAndType 261 12), (0, u "lastV"), (0, .fieldref 8 263), (0, .nameAndType 264 12), (0, u "lastVal"), (0, .fieldref 8 266), (0, .nameAndType 267 12), (0, u "topLast"), (0, .methodref 8 269), (0, .nameAndType 270 6), (0, u "beginParse"), (0, .methodref 8 272), (0, .nameAndType 273 274), (0, u "feed"), (0, u "(II)Z"), (0, .fieldref 8 276), (0, .nameAndType 277 12), (0, u "pState"), (0, .fieldref 8 279), (0, .nameAndType 280 12), (0, u "blkDepth"), (0, .fieldref 8 282), (0, .nameAndType 283 12), (0, u "curStmt"), (0, .methodref 8 285), (0, .nameAndType 286 6), (0, u "resetExpr"), (0, .methodref 8 288), (0, .nameAndType 289 274), (0, u "feedStatementStart"), (0, .methodref 8 291), (0, .nameAndType 292 274), (0, u "feedOperand"), (0, .methodref 8 294), (0, .nameAndType 295 245), (0, u "feedOperator"), (0, .methodref 8 297), (0, .nameAndType 298 299), (0, u "newStatement"), (0, u "(I)I"), (0, .fieldref 8 301), (0, .nameAndType 302 12), (0, u "entTop"), (0, .fieldref 8 304), (0, .nameAndType 305 12), (0, u "opTop"), (0, .fieldref 8 307), (0, .nameAndType 308 12), (0, u "parenDepth"), (0, .methodref 8 310), (0, .nameAndType 311 274), (0, u "pushEntry"), (0, .methodref 8 313), (0, .nameAndType 314 245), (0, u "pushOp"), (0, .methodref 8 316), (0, .nameAndType 317 245), (0, u "isBinaryToken"), (0, .methodref 8 319), (0, .nameAndType 320 245), (0, u "takeBinary"), (3, u "()Z"), (0, .methodref 8 326), (0, .nameAndType 327 324), (0, u "curIsAssign"), (0, .methodref 8 329), (0, .nameAndType 330 331), (0, u "reduceWhile"), (0, u "(I)V"), (0, .methodref 8 333), (0, .nameAndType 334 6), (0, u "finishAssignment"), (0, .methodref 8 336), (0, .nameAndType 337 6), (0, u "finishCondition"), (0, .methodref 8 339), (0, .nameAndType 340 324), (0, u "openBlock"), (0, .methodref 8 342), (0, .nameAndType 343 299), (0, u "precedence"), (0, .methodref 8 345), (0, .nameAndType 346 331), (0, u "applyOp"), (3, .methodref 8 351), (0, .nameAndType 352 331), (0, u "applyBinary"), (0, .methodref 8 354), (0, .nameAndType 355 258), (0, u "materialize"), (0, .methodref 8 357), (0, .nameAndType 358 359), (0, u "emit"), (0, u "(IIII)I"), (0, .methodref 8 361), (0, .nameAndType 362 363), (0, u "arith"), (0, u "(III)I"), (0, .methodref 8 365), (0, .nameAndType 366 367), (0, u "simplify"), (0, u "(III)Z"), (0, .methodref 8 369), (0, .nameAndType 370 331), (0, u "releaseEntry"), (0, .methodref 8 372), (0, .nameAndType 373 258), (0, u "rightIdentity"), (0, .methodref 8 375), (0, .nameAndType 376 377), (0, u "foldToZero"), (0, u "(II)V"), (6, .methodref 8 385), (0, .nameAndType 386 258), (0, u "allocRegister"), (0, .methodref 8 388), (0, .nameAndType 389 299), (0, u "successorOf"), (0, .methodref 8 391), (0, .nameAndType 392 331), (0, u "patchTerminator"), (0, .methodref 8 394), (0, .nameAndType 395 6), (0, u "computeMasks"), (0, .methodref 8 397), (0, .nameAndType 398 6), (0, u "computeDefs"), (0, .methodref 8 400), (0, .nameAndType 401 299), (0, u "bitOf"), (0, .methodref 8 403), (0, .nameAndType 404 377), (0, u "locate"), (0, .methodref 8 406), (0, .nameAndType 407 408), (0, u "describeDefinition"), (0, u "(IIZ)V"), (0, .methodref 8 410), (0, .nameAndType 411 299), (0, u "execStatement"), (0, .methodref 8 413), (0, .nameAndType 414 331), (0, u "execInstruction"), (0, .methodref 8 416), (0, .nameAndType 417 299), (0, u "load"), (0, .methodref 8 419), (0, .nameAndType 420 377), (0, u "store"), (0, u "T_NUM"), (2, u "T_VAR"), (1, u "T_ASSIGN"), (1, u "T_SEMI"), (1, u "T_PLUS"), (1, u "T_MINUS"), (1, u "T_STAR"), (1, u "T_SLASH"), (1, u "T_PERCENT"), (1, u "T_LT"), (1, u "T_EQ"), (1, u "T_LPAREN"), (1, u "T_RPAREN"), (1, u "T_LBRACE"), (1, u "T_RBRACE"), (1, u "T_WHILE"), (1, u "T_IF"), (1, u "MAX_TOKENS"), (1, u "VARS"), (0, u "MIN_REGS"), (0, u "MAX_REGS"), (0, u "MAX_RUN"), (1, u "C_OK"), (0, u "C_SYNTAX"), (0, u "C_STATE"), (0, u "REFUSED"), (1, u "AT_END"), (12, u "addToken"), (2, u "compile"), (1, u "statementCount"), (2, u "step"), (0, u "run"), (0, u "restart"), (0, u "where"), (1, u "value"), (0, u "lastVar"), (0, u "lastValue")] 2

def k2c0 : Code := { maxStack := 2, maxLocals := 3, code := prog_1_method_1_code, exceptionTable := #[], attributes := #[] }
def k2m0 : Method := { name := "<init>", desc := "(I)V", sig := { parameters := [.int], returnType := none }, accessFlags := 1, code := some k2c0 }
def k2c1 : Code := { maxStack := 3, maxLocals := 3, code := prog_1_method_2_code, exceptionTable := #[], attributes := #[] }
def k2m1 : Method := { name := "addToken", desc := "(II)Z", sig := { parameters := [.int, .int], returnType := some .boolean }, accessFlags := 1, code := some k2c1 }
def k2c2 : Code := { maxStack := 2, maxLocals := 2, code := prog_1_method_5_code, exceptionTable := #[], attributes := #[] }
def k2m2 : Method := { name := "compile", desc := "()I", sig := { parameters := [], returnType := some .int }, accessFlags := 1, code := some k2c2 }
def k2c3 : Code := { maxStack := 1, maxLocals := 1, code := prog_1_method_7_code, exceptionTable := #[], attributes := #[] }
def k2m3 : Method := { name := "statementCount", desc := "()I", sig := { parameters := [], returnType := some .int }, accessFlags := 1, code := some k2c3 }
def k2c4 : Code := { maxStack := 2, maxLocals := 1, code := prog_1_method_9_code, exceptionTable := #[], attributes := #[] }
def k2m4 : Method := { name := "step", desc := "()I", sig := { parameters := [], returnType := some .int }, accessFlags := 1, code := some k2c4 }
def k2c5 : Code := { maxStack := 2, maxLocals := 4, code := prog_1_method_10_code, exceptionTable := #[], attributes := #[] }
def k2m5 : Method := { name := "run", desc := "(I)I", sig := { parameters := [.int], returnType := some .int }, accessFlags := 1, code := some k2c5 }
def k2c6 : Code := { maxStack := 1, maxLocals := 1, code := prog_1_method_11_code, exceptionTable := #[], attributes := #[] }
def k2m6 : Method := { name := "restart", desc := "()Z", sig := { parameters := [], returnType := some .boolean }, accessFlags := 1, code := some k2c6 }
def k2c7 : Code := { maxStack := 1, maxLocals := 1, code := prog_1_method_12_code, exceptionTable := #[], attributes := #[] }
def k2m7 : Method := { name := "where", desc := "()I", sig := { parameters := [], returnType := some .int }, accessFlags := 1, code := some k2c7 }
def k2c8 : Code := { maxStack := 2, maxLocals := 3, code := prog_1_method_14_code, exceptionTable := #[], attributes := #[] }
def k2m8 : Method := { name := "isAvailable", desc := "(I)Z", sig := { parameters := [.int], returnType := some .boolean }, accessFlags := 1, code := some k2c8 }
def k2c9 : Code := { maxStack := 4, maxLocals := 3, code := prog_1_method_15_code, exceptionTable := #[], attributes := #[] }
def k2m9 : Method := { name := "value", desc := "(I)I", sig := { parameters := [.int], returnType := some .int }, accessFlags := 1, code := some k2c9 }
def k2c10 : Code := { maxStack := 1, maxLocals := 1, code := prog_1_method_16_code, exceptionTable := #[], attributes := #[] }
def k2m10 : Method := { name := "lastVar", desc := "()I", sig := { parameters := [], returnType := some .int }, accessFlags := 1, code := some k2c10 }
def k2c11 : Code := { maxStack := 1, maxLocals := 1, code := prog_1_method_17_code, exceptionTable := #[], attributes := #[] }
def k2m11 : Method := { name := "lastValue", desc := "()I", sig := { parameters := [], returnType := some .int }, accessFlags := 1, code := some k2c11 }
def k2c12 : Code := { maxStack := 2, maxLocals := 1, code := prog_1_method_18_code, exceptionTable := #[], attributes := #[] }
def k2m12 : Method := { name := "clearAll", desc := "()V", sig := { parameters := [], returnType := none }, accessFlags := 2, code := some k2c12 }
def k2c13 : Code := { maxStack := 3, maxLocals := 2, code := prog_1_method_19_code, exceptionTable := #[], attributes := #[] }
def k2m13 : Method := { name := "clearBreaks", desc := "()V", sig := { parameters := [], returnType := none }, accessFlags := 2, code := some k2c13 }
def k2c14 : Code := { maxStack := 3, maxLocals := 2, code := prog_1_method_20_code, exceptionTable := #[], attributes := #[] }
def k2m14 : Method := { name := "restartMachine", desc := "()V", sig := { parameters := [], returnType := none }, accessFlags := 2, code := some k2c14 }
def k2c15 : Code := { maxStack := 2, maxLocals := 2, code := prog_1_method_21_code, exceptionTable := #[], attributes := #[] }
def k2m15 : Method := { name := "breakAt", desc := "(I)Z", sig := { parameters := [.int], returnType := some .boolean }, accessFlags := 2, code := some k2c15 }
def k2c16 : Code := { maxStack := 2, maxLocals := 1, code := prog_1_method_22_code, exceptionTable := #[], attributes := #[] }
def k2m16 : Method := { name := "stopIndex", desc := "()I", sig := { parameters := [], returnType := some .int }, accessFlags := 2, code := some k2c16 }
def k2c17 : Code := { maxStack := 4, maxLocals := 2, code := prog_1_method_23_code, exceptionTable := #[], attributes := #[] }
def k2m17 : Method := { name := "parseAll", desc := "()I", sig := { parameters := [], returnType := some .int }, accessFlags := 2, code := some k2c17 }
def k2c18 : Code := { maxStack := 3, maxLocals := 1, code := prog_1_method_24_code, exceptionTable := #[], attributes := #[] }
def k2m18 : Method := { name := "beginParse", desc := "()V", sig := { parameters := [], returnType := none }, accessFlags := 2, code := some k2c18 }
def k2c19 : Code := { maxStack := 3, maxLocals := 3, code := prog_1_method_25_code, exceptionTable := #[], attributes := #[] }
def k2m19 : Method := { name := "feed", desc := "(II)Z", sig := { parameters := [.int, .int], returnType := some .boolean }, accessFlags := 2, code := some k2c19 }
def k2c20 : Code := { maxStack := 3, maxLocals := 4, code := prog_1_method_26_code, exceptionTable := #[], attributes := #[] }
def k2m20 : Method := { name := "feedStatementStart", desc := "(II)Z", sig := { parameters := [.int, .int], returnType := some .boolean }, accessFlags := 2, code := some k2c20 }
def k2c21 : Code := { maxStack := 3, maxLocals := 5, code := prog_1_method_27_code, exceptionTable := #[], attributes := #[] }
def k2m21 : Method := { name := "newStatement", desc := "(I)I", sig := { parameters := [.int], returnType := some .int }, accessFlags := 2, code := some k2c21 }
def k2c22 : Code := { maxStack := 3, maxLocals := 1, code := prog_1_method_28_code, exceptionTable := #[], attributes := #[] }
def k2m22 : Method := { name := "openBlock", desc := "()Z", sig := { parameters := [], returnType := some .boolean }, accessFlags := 2, code := some k2c22 }
def k2c23 : Code := { maxStack := 2, maxLocals := 1, code := prog_1_method_29_code, exceptionTable := #[], attributes := #[] }
def k2m23 : Method := { name := "curIsAssign", desc := "()Z", sig := { parameters := [], returnType := some .boolean }, accessFlags := 2, code := some k2c23 }
def k2c24 : Code := { maxStack := 3, maxLocals := 2, code := prog_1_method_30_code, exceptionTable := #[], attributes := #[] }
def k2m24 : Method := { name := "resetExpr", desc := "()V", sig := { parameters := [], returnType := none }, accessFlags := 2, code := some k2c24 }
def k2c25 : Code := { maxStack := 3, maxLocals := 4, code := prog_1_method_31_code, exceptionTable := #[], attributes := #[] }
def k2m25 : Method := { name := "feedOperand", desc := "(II)Z", sig := { parameters := [.int, .int], returnType := some .boolean }, accessFlags := 2, code := some k2c25 }
def k2c26 : Code := { maxStack := 2, maxLocals := 3, code := prog_1_method_32_code, exceptionTable := #[], attributes := #[] }
def k2m26 : Method := { name := "feedOperator", desc := "(I)Z", sig := { parameters := [.int], returnType := some .boolean }, accessFlags := 2, code := some k2c26 }
def k2c27 : Code := { maxStack := 3, maxLocals := 3, code := prog_1_method_33_code, exceptionTable := #[], attributes := #[] }
def k2m27 : Method := { name := "takeBinary", desc := "(I)Z", sig := { parameters := [.int], returnType := some .boolean }, accessFlags := 2, code := some k2c27 }
def k2c28 : Code := { maxStack := 2, maxLocals := 2, code := prog_1_method_35_code, exceptionTable := #[], attributes := #[] }
def k2m28 : Method := { name := "isBinaryToken", desc := "(I)Z", sig := { parameters := [.int], returnType := some .boolean }, accessFlags := 2, code := some k2c28 }
def k2c29 : Code := { maxStack := 2, maxLocals := 2, code := prog_1_method_36_code, exceptionTable := #[], attributes := #[] }
def k2m29 : Method := { name := "precedence", desc := "(I)I", sig := { parameters := [.int], returnType := some .int }, accessFlags := 2, code := some k2c29 }
def k2c30 : Code := { maxStack := 3, maxLocals := 2, code := prog_1_method_37_code, exceptionTable := #[], attributes := #[] }
def k2m30 : Method := { name := "pushOp", desc := "(I)Z", sig := { parameters := [.int], returnType := some .boolean }, accessFlags := 2, code := some k2c30 }
def k2c31 : Code := { maxStack := 3, maxLocals := 5, code := prog_1_method_38_code, exceptionTable := #[], attributes := #[] }
def k2m31 : Method := { name := "reduceWhile", desc := "(I)V", sig := { parameters := [.int], returnType := none }, accessFlags := 2, code := some k2c31 }
def k2c32 : Code := { maxStack := 3, maxLocals := 3, code := prog_1_method_39_code, exceptionTable := #[], attributes := #[] }
def k2m32 : Method := { name := "pushEntry", desc := "(II)Z", sig := { parameters := [.int, .int], returnType := some .boolean }, accessFlags := 2, code := some k2c32 }
def k2c33 : Code := { maxStack := 2, maxLocals := 2, code := prog_1_method_40_code, exceptionTable := #[], attributes := #[] }
def k2m33 : Method := { name := "applyOp", desc := "(I)V", sig := { parameters := [.int], returnType := none }, accessFlags := 2, code := some k2c33 }
def k2c34 : Code := { maxStack := 7, maxLocals := 6, code := prog_1_method_42_code, exceptionTable := #[], attributes := #[] }
def k2m34 : Method := { name := "applyBinary", desc := "(I)V", sig := { parameters := [.int], returnType := none }, accessFlags := 2, code := some k2c34 }
def k2c35 : Code := { maxStack := 4, maxLocals := 5, code := prog_1_method_43_code, exceptionTable := #[], attributes := #[] }
def k2m35 : Method := { name := "simplify", desc := "(III)Z", sig := { parameters := [.int, .int, .int], returnType := some .boolean }, accessFlags := 2, code := some k2c35 }
def k2c36 : Code := { maxStack := 2, maxLocals := 3, code := prog_1_method_44_code, exceptionTable := #[], attributes := #[] }
def k2m36 : Method := { name := "rightIdentity", desc := "(II)I", sig := { parameters := [.int, .int], returnType := some .int }, accessFlags := 2, code := some k2c36 }
def k2c37 : Code := { maxStack := 3, maxLocals := 3, code := prog_1_method_46_code, exceptionTable := #[], attributes := #[] }
def k2m37 : Method := { name := "foldToZero", desc := "(II)V", sig := { parameters := [.int, .int], returnType := none }, accessFlags := 2, code := some k2c37 }
def k2c38 : Code := { maxStack := 3, maxLocals := 3, code := prog_1_method_48_code, exceptionTable := #[], attributes := #[] }
def k2m38 : Method := { name := "releaseEntry", desc := "(I)V", sig := { parameters := [.int], returnType := none }, accessFlags := 2, code := some k2c38 }
def k2c39 : Code := { maxStack := 5, maxLocals := 5, code := prog_1_method_49_code, exceptionTable := #[], attributes := #[] }
def k2m39 : Method := { name := "materialize", desc := "(II)I", sig := { parameters := [.int, .int], returnType := some .int }, accessFlags := 2, code := some k2c39 }
def k2c40 : Code := { maxStack := 5, maxLocals := 5, code := prog_1_method_50_code, exceptionTable := #[], attributes := #[] }
def k2m40 : Method := { name := "allocRegister", desc := "(II)I", sig := { parameters := [.int, .int], returnType := some .int }, accessFlags := 2, code := some k2c40 }
def k2c41 : Code := { maxStack := 7, maxLocals := 4, code := prog_1_method_51_code, exceptionTable := #[], attributes := #[] }
def k2m41 : Method := { name := "finishAssignment", desc := "()V", sig := { parameters := [], returnType := none }, accessFlags := 2, code := some k2c41 }
def k2c42 : Code := { maxStack := 7, maxLocals := 3, code := prog_1_method_52_code, exceptionTable := #[], attributes := #[] }
def k2m42 : Method := { name := "finishCondition", desc := "()V", sig := { parameters := [], returnType := none }, accessFlags := 2, code := some k2c42 }
def k2c43 : Code := { maxStack := 3, maxLocals := 6, code := prog_1_method_53_code, exceptionTable := #[], attributes := #[] }
def k2m43 : Method := { name := "emit", desc := "(IIII)I", sig := { parameters := [.int, .int, .int, .int], returnType := some .int }, accessFlags := 2, code := some k2c43 }
def k2c44 : Code := { maxStack := 4, maxLocals := 2, code := prog_1_method_54_code, exceptionTable := #[], attributes := #[] }
def k2m44 : Method := { name := "linkStatements", desc := "()V", sig := { parameters := [], returnType := none }, accessFlags := 2, code := some k2c44 }
def k2c45 : Code := { maxStack := 2, maxLocals := 5, code := prog_1_method_55_code, exceptionTable := #[], attributes := #[] }
def k2m45 : Method := { name := "successorOf", desc := "(I)I", sig := { parameters := [.int], returnType := some .int }, accessFlags := 2, code := some k2c45 }
def k2c46 : Code := { maxStack := 3, maxLocals := 5, code := prog_1_method_56_code, exceptionTable := #[], attributes := #[] }
def k2m46 : Method := { name := "patchTerminator", desc := "(I)V", sig := { parameters := [.int], returnType := none }, accessFlags := 2, code := some k2c46 }
def k2c47 : Code := { maxStack := 3, maxLocals := 2, code := prog_1_method_57_code, exceptionTable := #[], attributes := #[] }
def k2m47 : Method := { name := "bitOf", desc := "(I)I", sig := { parameters := [.int], returnType := some .int }, accessFlags := 2, code := some k2c47 }
def k2c48 : Code := { maxStack := 5, maxLocals := 3, code := prog_1_method_58_code, exceptionTable := #[], attributes := #[] }
def k2m48 : Method := { name := "computeMasks", desc := "()V", sig := { parameters := [], returnType := none }, accessFlags := 2, code := some k2c48 }
def k2c49 : Code := { maxStack := 5, maxLocals := 4, code := prog_1_method_59_code, exceptionTable := #[], attributes := #[] }
def k2m49 : Method := { name := "computeDefs", desc := "()V", sig := { parameters := [], returnType := none }, accessFlags := 2, code := some k2c49 }
def k2c50 : Code := { maxStack := 3, maxLocals := 3, code := prog_1_method_60_code, exceptionTable := #[], attributes := #[] }
def k2m50 : Method := { name := "buildLocationLists", desc := "()V", sig := { parameters := [], returnType := none }, accessFlags := 2, code := some k2c50 }
def k2c51 : Code := { maxStack := 4, maxLocals := 8, code := prog_1_method_61_code, exceptionTable := #[], attributes := #[] }
def k2m51 : Method := { name := "locate", desc := "(II)V", sig := { parameters := [.int, .int], returnType := none }, accessFlags := 2, code := some k2c51 }
def k2c52 : Code := { maxStack := 4, maxLocals := 4, code := prog_1_method_62_code, exceptionTable := #[], attributes := #[] }
def k2m52 : Method := { name := "describeDefinition", desc := "(IIZ)V", sig := { parameters := [.int, .int, .boolean], returnType := none }, accessFlags := 2, code := some k2c52 }
def k2c53 : Code := { maxStack := 3, maxLocals := 3, code := prog_1_method_63_code, exceptionTable := #[], attributes := #[] }
def k2m53 : Method := { name := "readLocation", desc := "(II)I", sig := { parameters := [.int, .int], returnType := some .int }, accessFlags := 2, code := some k2c53 }
def k2c54 : Code := { maxStack := 3, maxLocals := 2, code := prog_1_method_64_code, exceptionTable := #[], attributes := #[] }
def k2m54 : Method := { name := "stepOnce", desc := "()V", sig := { parameters := [], returnType := none }, accessFlags := 2, code := some k2c54 }
def k2c55 : Code := { maxStack := 3, maxLocals := 5, code := prog_1_method_65_code, exceptionTable := #[], attributes := #[] }
def k2m55 : Method := { name := "execStatement", desc := "(I)I", sig := { parameters := [.int], returnType := some .int }, accessFlags := 2, code := some k2c55 }
def k2c56 : Code := { maxStack := 6, maxLocals := 8, code := prog_1_method_66_code, exceptionTable := #[], attributes := #[] }
def k2m56 : Method := { name := "execInstruction", desc := "(I)V", sig := { parameters := [.int], returnType := none }, accessFlags := 2, code := some k2c56 }
def k2c57 : Code := { maxStack := 2, maxLocals := 2, code := prog_1_method_67_code, exceptionTable := #[], attributes := #[] }
def k2m57 : Method := { name := "load", desc := "(I)I", sig := { parameters := [.int], returnType := some .int }, accessFlags := 2, code := some k2c57 }
def k2c58 : Code := { maxStack := 3, maxLocals := 3, code := prog_1_method_68_code, exceptionTable := #[], attributes := #[] }
def k2m58 : Method := { name := "store", desc := "(II)V", sig := { parameters := [.int, .int], returnType := none }, accessFlags := 2, code := some k2c58 }
def k2c59 : Code := { maxStack := 2, maxLocals := 4, code := prog_1_method_69_code, exceptionTable := #[], attributes := #[] }
def k2m59 : Method := { name := "arith", desc := "(III)I", sig := { parameters := [.int, .int, .int], returnType := some .int }, accessFlags := 2, code := some k2c59 }
/-- LocListDebug -/
def k2 : Class := { plain "LocListDebug" (some 0) with
  accessFlags := 49
  interfaces := #[]
  cf := some (fileOf pool2 8 #[] #[{ accessFlags := 1, nameIndex := 5, descriptorIndex := 331, attributes := #[] }, { accessFlags := 1, nameIndex := 481, descriptorIndex := 274, attributes := #[] }, { accessFlags := 1, nameIndex := 484, descriptorIndex := 214, attributes := #[] }, { accessFlags := 1, nameIndex := 486, descriptorIndex := 214, attributes := #[] }, { accessFlags := 1, nameIndex := 489, descriptorIndex := 214, attributes := #[] }, { accessFlags := 1, nameIndex := 490, descriptorIndex := 299, attributes := #[] }, { accessFlags := 1, nameIndex := 491, descriptorIndex := 324, attributes := #[] }, { accessFlags := 1, nameIndex := 492, descriptorIndex := 214, attributes := #[] }, { accessFlags := 1, nameIndex := 254, descriptorIndex := 245, attributes := #[] }, { accessFlags := 1, nameIndex := 494, descriptorIndex := 299, attributes := #[] }, { accessFlags := 1, nameIndex := 495, descriptorIndex := 214, attributes := #[] }, { accessFlags := 1, nameIndex := 496, descriptorIndex := 214, attributes := #[] }, { accessFlags := 2, nameIndex := 203, descriptorIndex := 6, attributes := #[] }, { accessFlags := 2, nameIndex := 232, descriptorIndex := 6, attributes := #[] }, { accessFlags := 2, nameIndex := 235, descriptorIndex := 6, attributes := #[] }, { accessFlags := 2, nameIndex := 244, descriptorIndex := 245, attributes := #[] }, { accessFlags := 2, nameIndex := 251, descriptorIndex := 214, attributes := #[] }, { accessFlags := 2, nameIndex := 213, descriptorIndex := 214, attributes := #[] }, { accessFlags := 2, nameIndex := 270, descriptorIndex := 6, attributes := #[] }, { accessFlags := 2, nameIndex := 273, descriptorIndex := 274, attributes := #[] }, { accessFlags := 2, nameIndex := 289, descriptorIndex := 274, attributes := #[] }, { accessFlags := 2, nameIndex := 298, descriptorIndex := 299, attributes := #[] }, { accessFlags := 2, nameIndex := 340, descriptorIndex := 324, attributes := #[] }, { accessFlags := 2, nameIndex := 327, descriptorIndex := 324, attributes := #[] }, { accessFlags := 2, nameIndex := 286, descriptorIndex := 6, attributes := #[] }, { accessFlags := 2, nameIndex := 292, descriptorIndex := 274, attributes := #[] }, { accessFlags := 2, nameIndex := 295, descriptorIndex := 245, attributes := #[] }, { accessFlags := 2, nameIndex := 320, descriptorIndex := 245, attributes := #[] }, { accessFlags := 2, nameIndex := 317, descriptorIndex := 245, attributes := #[] }, { accessFlags := 2, nameIndex := 343, descriptorIndex := 299, attributes := #[] }, { accessFlags := 2, nameIndex := 314, descriptorIndex := 245, attributes := #[] }, { accessFlags := 2, nameIndex := 330, descriptorIndex := 331, attributes := #[] }, { accessFlags := 2, nameIndex := 311, descriptorIndex := 274, attributes := #[] }, { accessFlags := 2, nameIndex := 346, descriptorIndex := 331, attributes := #[] }, { accessFlags := 2, nameIndex := 352, descriptorIndex := 331, attributes := #[] }, { accessFlags := 2, nameIndex := 366, descriptorIndex := 367, attributes := #[] }, { accessFlags := 2, nameIndex := 373, descriptorIndex := 258, attributes := #[] }, { accessFlags := 2, nameIndex := 376, descriptorIndex := 377, attributes := #[] }, { accessFlags := 2, nameIndex := 370, descriptorIndex := 331, attributes := #[] }, { accessFlags := 2, nameIndex := 355, descriptorIndex := 258, attributes := #[] }, { accessFlags := 2, nameIndex := 386, descriptorIndex := 258, attributes := #[] }, { accessFlags := 2, nameIndex := 334, descriptorIndex := 6, attributes := #[] }, { accessFlags := 2, nameIndex := 337, descriptorIndex := 6, attributes := #[] }, { accessFlags := 2, nameIndex := 358, descriptorIndex := 359, attributes := #[] }, { accessFlags := 2, nameIndex := 226, descriptorIndex := 6, attributes := #[] }, { accessFlags := 2, nameIndex := 389, descriptorIndex := 299, attributes := #[] }, { accessFlags := 2, nameIndex := 392, descriptorIndex := 331, attributes := #[] }, { accessFlags := 2, nameIndex := 401, descriptorIndex := 299, attributes := #[] }, { accessFlags := 2, nameIndex := 395, descriptorIndex := 6, attributes := #[] }, { accessFlags := 2, nameIndex := 398, descriptorIndex := 6, attributes := #[] }, { accessFlags := 2, nameIndex := 229, descriptorIndex := 6, attributes := #[] }, { accessFlags := 2, nameIndex := 404, descriptorIndex := 377, attributes := #[] }, { accessFlags := 2, nameIndex := 407, descriptorIndex := 408, attributes := #[] }, { accessFlags := 2, nameIndex := 257, descriptorIndex := 258, attributes := #[] }, { accessFlags := 2, nameIndex := 241, descriptorIndex := 6, attributes := #[] }, { accessFlags := 2, nameIndex := 411, descriptorIndex := 299, attributes := #[] }, { accessFlags := 2, nameIndex := 414, descriptorIndex := 331, attributes := #[] }, { accessFlags := 2, nameIndex := 417, descriptorIndex := 299, attributes := #[] }, { accessFlags := 2, nameIndex := 420, descriptorIndex := 377, attributes := #[] }, { accessFlags := 2, nameIndex := 362, descriptorIndex := 363, attributes := #[] }] 49 2 #[] #[{ accessFlags := 25, nameIndex := 421, descriptorIndex := 12, attributes := #[] }, { accessFlags := 25, nameIndex := 424, descriptorIndex := 12, attributes := #[] }, { accessFlags := 25, nameIndex := 426, descriptorIndex := 12, attributes := #[] }, { accessFlags := 25, nameIndex := 428, descriptorIndex := 12, attributes := #[] }, { accessFlags := 25, nameIndex := 430, descriptorIndex := 12, attributes := #[] }, { accessFlags := 25, nameIndex := 432, descriptorIndex := 12, attributes := #[] }, { accessFlags := 25, nameIndex := 434, descriptorIndex := 12, attributes := #[] }, { accessFlags := 25, nameIndex := 436, descriptorIndex := 12, attributes := #[] }, { accessFlags := 25, nameIndex := 438, descriptorIndex := 12, attributes := #[] }, { accessFlags := 25, nameIndex := 440, descriptorIndex := 12, attributes := #[] }, { accessFlags := 25, nameIndex := 442, descriptorIndex := 12, attributes := #[] }, { accessFlags := 25, nameIndex := 444, descriptorIndex := 12, attributes := #[] }, { accessFlags := 25, nameIndex := 446, descriptorIndex := 12, attributes := #[] }, { accessFlags := 25, nameIndex := 448, descriptorIndex := 12, attributes := #[] }, { accessFlags := 25, nameIndex := 450, descriptorIndex := 12, attributes := #[] }, { accessFlags := 25, nameIndex := 452, descriptorIndex := 12, attributes := #[] }, { accessFlags := 25, nameIndex := 454, descriptorIndex := 12, attributes := #[] }, { accessFlags := 25, nameIndex := 456, descriptorIndex := 12, attributes := #[] }, { accessFlags := 25, nameIndex := 458, descriptorIndex := 12, attributes := #[] }, { accessFlags := 25, nameIndex := 459, descriptorIndex := 12, attributes := #[] }, { accessFlags := 25, nameIndex := 460, descriptorIndex := 12, attributes := #[] }, { accessFlags := 25, nameIndex := 461, descriptorIndex := 12, attributes := #[] }, { accessFlags := 25, nameIndex := 463, descriptorIndex := 12, attributes := #[] }, { accessFlags := 25, nameIndex := 464, descriptorIndex := 12, attributes := #[] }, { accessFlags := 25, nameIndex := 465, descriptorIndex := 12, attributes := #[] }, { accessFlags := 25, nameIndex := 466, descriptorIndex := 12, attributes := #[] }, { accessFlags := 25, nameIndex := 468, descriptorIndex := 12, attributes := #[] }, { accessFlags := 18, nameIndex := 11, descriptorIndex := 12, attributes := #[] }, { accessFlags := 18, nameIndex := 15, descriptorIndex := 12, attributes := #[] }, { accessFlags := 18, nameIndex := 18, descriptorIndex := 12, attributes := #[] }, { accessFlags := 18, nameIndex := 21, descriptorIndex := 12, attributes := #[] }, { accessFlags := 18, nameIndex := 24, descriptorIndex := 12, attributes := #[] }, { accessFlags := 18, nameIndex := 27, descriptorIndex := 12, attributes := #[] }, { accessFlags := 18, nameIndex := 30, descriptorIndex := 12, attributes := #[] }, { accessFlags := 18, nameIndex := 33, descriptorIndex := 12, attributes := #[] }, { accessFlags := 18, nameIndex := 36, descriptorIndex := 12, attributes := #[] }, { accessFlags := 18, nameIndex := 39, descriptorIndex := 12, attributes := #[] }, { accessFlags := 18, nameIndex := 42, descriptorIndex := 12, attributes := #[] }, { accessFlags := 18, nameIndex := 45, descriptorIndex := 12, attributes := #[] }, { accessFlags := 18, nameIndex := 48, descriptorIndex := 12, attributes := #[] }, { accessFlags := 18, nameIndex := 51, descriptorIndex := 12, attributes := #[] }, { accessFlags := 18, nameIndex := 54, descriptorIndex := 12, attributes := #[] }, { accessFlags := 18, nameIndex := 57, descriptorIndex := 12, attributes := #[] }, { accessFlags := 18, nameIndex := 60, descriptorIndex := 12, attributes := #[] }, { accessFlags := 18, nameIndex := 63, descriptorIndex := 12, attributes := #[] }, { accessFlags := 18, nameIndex := 66, descriptorIndex := 12, attributes := #[] }, { accessFlags := 18, nameIndex := 69, descriptorIndex := 12, attributes := #[] }, { accessFlags := 18, nameIndex := 72, descriptorIndex := 12, attributes := #[] }, { accessFlags := 18, nameIndex := 75, descriptorIndex := 12, attributes := #[] }, { accessFlags := 18, nameIndex := 78, descriptorIndex := 12, attributes := #[] }, { accessFlags := 18, nameIndex := 81, descriptorIndex := 12, attributes := #[] }, { accessFlags := 18, nameIndex := 84, descriptorIndex := 12, attributes := #[] }, { accessFlags := 18, nameIndex := 87, descriptorIndex := 12, attributes := #[] }, { accessFlags := 18, nameIndex := 90, descriptorIndex := 12, attributes := #[] }, { accessFlags := 18, nameIndex := 93, descriptorIndex := 12, attributes := #[] }, { accessFlags := 18, nameIndex := 96, descriptorIndex := 12, attributes := #[] }, { accessFlags := 18, nameIndex := 99, descriptorIndex := 12, attributes := #[] }, { accessFlags := 18, nameIndex := 102, descriptorIndex := 12, attributes := #[] }, { accessFlags := 2, nameIndex := 200, descriptorIndex := 12, attributes := #[] }, { accessFlags := 2, nameIndex := 206, descriptorIndex := 207, attributes := #[] }, { accessFlags := 2, nameIndex := 217, descriptorIndex := 12, attributes := #[] }, { accessFlags := 18, nameIndex := 105, descriptorIndex := 106, attributes := #[] }, { accessFlags := 18, nameIndex := 109, descriptorIndex := 106, attributes := #[] }, { accessFlags := 2, nameIndex := 210, descriptorIndex := 12, attributes := #[] }, { accessFlags := 2, nameIndex := 220, descriptorIndex := 12, attributes := #[] }, { accessFlags := 2, nameIndex := 267, descriptorIndex := 12, attributes := #[] }, { accessFlags := 18, nameIndex := 112, descriptorIndex := 106, attributes := #[] }, { accessFlags := 18, nameIndex := 115, descriptorIndex := 106, attributes := #[] }, { accessFlags := 18, nameIndex := 118, descriptorIndex := 106, attributes := #[] }, { accessFlags := 18, nameIndex := 121, descriptorIndex := 106, attributes := #[] }, { accessFlags := 18, nameIndex := 124, descriptorIndex := 106, attributes := #[] }, { accessFlags := 18, nameIndex := 127, descriptorIndex := 106, attributes := #[] }, { accessFlags := 18, nameIndex := 130, descriptorIndex := 106, attributes := #[] }, { accessFlags := 18, nameIndex := 133, descriptorIndex := 106, attributes := #[] }, { accessFlags := 18, nameIndex := 136, descriptorIndex := 106, attributes := #[] }, { accessFlags := 18, nameIndex := 139, descriptorIndex := 106, attributes := #[] }, { accessFlags := 18, nameIndex := 142, descriptorIndex := 106, attributes := #[] }, { accessFlags := 18, nameIndex := 145, descriptorIndex := 106, attributes := #[] }, { accessFlags := 18, nameIndex := 148, descriptorIndex := 106, attributes := #[] }, { accessFlags := 18, nameIndex := 151, descriptorIndex := 152, attributes := #[] }, { accessFlags := 18, nameIndex := 155, descriptorIndex := 106, attributes := #[] }, { accessFlags := 18, nameIndex := 158, descriptorIndex := 106, attributes := #[] }, { accessFlags := 18, nameIndex := 161, descriptorIndex := 106, attributes := #[] }, { accessFlags := 18, nameIndex := 164, descriptorIndex := 106, attributes := #[] }, { accessFlags := 18, nameIndex := 167, descriptorIndex := 106, attributes := #[] }, { accessFlags := 18, nameIndex := 170, descriptorIndex := 106, attributes := #[] }, { accessFlags := 2, nameIndex := 223, descriptorIndex := 12, attributes := #[] }, { accessFlags := 18, nameIndex := 173, descriptorIndex := 106, attributes := #[] }, { accessFlags := 18, nameIndex := 176, descriptorIndex := 106, attributes := #[] }, { accessFlags := 2, nameIndex := 238, descriptorIndex := 12, attributes := #[] }, { accessFlags := 2, nameIndex := 248, descriptorIndex := 12, attributes := #[] }, { accessFlags := 2, nameIndex := 261, descriptorIndex := 12, attributes := #[] }, { accessFlags := 2, nameIndex := 264, descriptorIndex := 12, attributes := #[] }, { accessFlags := 2, nameIndex := 277, descriptorIndex := 12, attributes := #[] }, { accessFlags := 2, nameIndex := 283, descriptorIndex := 12, attributes := #[] }, { accessFlags := 2, nameIndex := 280, descriptorIndex := 12, attributes := #[] }, { accessFlags := 18, nameIndex := 179, descriptorIndex := 106, attributes := #[] }, { accessFlags := 18, nameIndex := 182, descriptorIndex := 106, attributes := #[] }, { accessFlags := 18, nameIndex := 185, descriptorIndex := 106, attributes := #[] }, { accessFlags := 18, nameIndex := 188, descriptorIndex := 106, attributes := #[] }, { accessFlags := 2, nameIndex := 302, descriptorIndex := 12, attributes := #[] }, { accessFlags := 18, nameIndex := 191, descriptorIndex := 106, attributes := #[] }, { accessFlags := 18, nameIndex := 194, descriptorIndex := 106, attributes := #[] }, { accessFlags := 2, nameIndex := 305, descriptorIndex := 12, attributes := #[] }, { accessFlags := 18, nameIndex := 197, descriptorIndex := 152, attributes := #[] }, { accessFlags := 2, nameIndex := 308, descriptorIndex := 12, attributes := #[] }])
  fields := #[{ name := "T_NUM", type := .int, accessFlags := 25, slot := 0, constantValue := 0 }, { name := "T_VAR", type := .int, accessFlags := 25, slot := 1, constantValue := 0 }, { name := "T_ASSIGN", type := .int, accessFlags := 25, slot := 2, constantValue := 0 }, { name := "T_SEMI", type := .int, accessFlags := 25, slot := 3, constantValue := 0 }, { name := "T_PLUS", type := .int, accessFlags := 25, slot := 4, constantValue := 0 }, { name := "T_MINUS", type := .int, accessFlags := 25, slot := 5, constantValue := 0 }, { name := "T_STAR", type := .int, accessFlags := 25, slot := 6, constantValue := 0 }, { name := "T_SLASH", type := .int, accessFlags := 25, slot := 7, constantValue := 0 }, { name := "T_PERCENT", type := .int, accessFlags := 25, slot := 8, constantValue := 0 }, { name := "T_LT", type := .int, accessFlags := 25, slot := 9, constantValue := 0 }, { name := "T_EQ", type := .int, accessFlags := 25, slot := 10, constantValue := 0 }, { name := "T_LPAREN", type := .int, accessFlags := 25, slot := 11, constantValue := 0 }, { name := "T_RPAREN", type := .int, accessFlags := 25, slot := 12, constantValue := 0 }, { name := "T_LBRACE", type := .int, accessFlags := 25, slot := 13, constantValue := 0 }, { name := "T_RBRACE", type := .int, accessFlags := 25, slot := 14, constantValue := 0 }, { name := "T_WHILE", type := .int, accessFlags := 25, slot := 15, constantValue := 0 }, { name := "T_IF", type := .int, accessFlags := 25, slot := 16, constantValue := 0 }, { name := "MAX_TOKENS", type := .int, accessFlags := 25, slot := 17, constantValue := 0 }, { name := "VARS", type := .int, accessFlags := 25, slot := 18, constantValue := 0 }, { name := "MIN_REGS", type := .int, accessFlags := 25, slot := 19, constantValue := 0 }, { name := "MAX_REGS", type := .int, accessFlags := 25, slot := 20, constantValue := 0 }, { name := "MAX_RUN", type := .int, accessFlags := 25, slot := 21, constantValue := 0 }, { name := "C_OK", type := .int, accessFlags := 25, slot := 22, constantValue := 0 }, { name := "C_SYNTAX", type := .int, accessFlags := 25, slot := 23, constantValue := 0 }, { name := "C_STATE", type := .int, accessFlags := 25, slot := 24, constantValue := 0 }, { name := "REFUSED", type := .int, accessFlags := 25, slot := 25, constantValue := 0 }, { name := "AT_END", type := .int, accessFlags := 25, slot := 26, constantValue := 0 }, { name := "MAX_STMTS", type := .int, accessFlags := 18, slot := 0, constantValue := 0 }, { name := "CODE_MAX", type := .int, accessFlags := 18, slot := 1, constantValue := 0 }, { name := "MEM_SIZE", type := .int, accessFlags := 18, slot := 2, constantValue := 0 }, { name := "STACK_MAX", type := .int, accessFlags := 18, slot := 3, constantValue := 0 }, { name := "BLOCK_MAX", type := .int, accessFlags := 18, slot := 4, constantValue := 0 }, { name := "LOC_MAX", type := .int, accessFlags := 18, slot := 5, constantValue := 0 }, { name := "SPILL_BASE", type := .int, accessFlags := 18, slot := 6, constantValue := 0 }, { name := "I_LDI", type := .int, accessFlags := 18, slot := 7, constantValue := 0 }, { name := "I_LD", type := .int, accessFlags := 18, slot := 8, constantValue := 0 }, { name := "I_ST", type := .int, accessFlags := 18, slot := 9, constantValue := 0 }, { name := "I_STI", type := .int, accessFlags := 18, slot := 10, constantValue := 0 }, { name := "I_OP", type := .int, accessFlags := 18, slot := 11, constantValue := 0 }, { name := "I_OPI", type := .int, accessFlags := 18, slot := 12, constantValue := 0 }, { name := "I_NEG", type := .int, accessFlags := 18, slot := 13, constantValue := 0 }, { name := "I_STOP", type := .int, accessFlags := 18, slot := 14, constantValue := 0 }, { name := "I_BR", type := .int, accessFlags := 18, slot := 15, constantValue := 0 }, { name := "I_BRK", type := .int, accessFlags := 18, slot := 16, constantValue := 0 }, { name := "OP_NEG", type := .int, accessFlags := 18, slot := 17, constantValue := 0 }, { name := "OP_PAREN", type := .int, accessFlags := 18, slot := 18, constantValue := 0 }, { name := "E_CONST", type := .int, accessFlags := 18, slot := 19, constantValue := 0 }, { name := "E_VAR", type := .int, accessFlags := 18, slot := 20, constantValue := 0 }, { name := "E_REG", type := .int, accessFlags := 18, slot := 21, constantValue := 0 }, { name := "E_SLOT", type := .int, accessFlags := 18, slot := 22, constantValue := 0 }, { name := "L_NONE", type := .int, accessFlags := 18, slot := 23, constantValue := 0 }, { name := "L_SLOT", type := .int, accessFlags := 18, slot := 24, constantValue := 0 }, { name := "L_CONST", type := .int, accessFlags := 18, slot := 25, constantValue := 0 }, { name := "L_REG", type := .int, accessFlags := 18, slot := 26, constantValue := 0 }, { name := "P_STMT", type := .int, accessFlags := 18, slot := 27, constantValue := 0 }, { name := "P_ASSIGN", type := .int, accessFlags := 18, slot := 28, constantValue := 0 }, { name := "P_OPERAND", type := .int, accessFlags := 18, slot := 29, constantValue := 0 }, { name := "P_OPERATOR", type := .int, accessFlags := 18, slot := 30, constantValue := 0 }, { name := "regCount", type := .int, accessFlags := 2, slot := 31, constantValue := 0 }, { name := "running", type := .boolean, accessFlags := 2, slot := 32, constantValue := 0 }, { name := "errPos", type := .int, accessFlags := 2, slot := 33, constantValue := 0 }, { name := "tokKind", type := (.array .int), accessFlags := 18, slot := 34, constantValue := 0 }, { name := "tokArg", type := (.array .int), accessFlags := 18, slot := 35, constantValue := 0 }, { name := "tokCount", type := .int, accessFlags := 2, slot := 36, constantValue := 0 }, { name := "stmtCount", type := .int, accessFlags := 2, slot := 37, constantValue := 0 }, { name := "topLast", type := .int, accessFlags := 2, slot := 38, constantValue := 0 }, { name := "stKind", type := (.array .int), accessFlags := 18, slot := 39, constantValue := 0 }, { name := "stVar", type := (.array .int), accessFlags := 18, slot := 40, constantValue := 0 }, { name := "stParent", type := (.array .int), accessFlags := 18, slot := 41, constantValue := 0 }, { name := "stPrev", type := (.array .int), accessFlags := 18, slot := 42, constantValue := 0 }, { name := "stNext", type := (.array .int), accessFlags := 18, slot := 43, constantValue := 0 }, { name := "stFirst", type := (.array .int), accessFlags := 18, slot := 44, constantValue := 0 }, { name := "stStart", type := (.array .int), accessFlags := 18, slot := 45, constantValue := 0 }, { name := "stTerm", type := (.array .int), accessFlags := 18, slot := 46, constantValue := 0 }, { name := "stSucc", type := (.array .int), accessFlags := 18, slot := 47, constantValue := 0 }, { name := "stMask", type := (.array .int), accessFlags := 18, slot := 48, constantValue := 0 }, { name := "stResKind", type := (.array .int), accessFlags := 18, slot := 49, constantValue := 0 }, { name := "stResVal", type := (.array .int), accessFlags := 18, slot := 50, constantValue := 0 }, { name := "stDef", type := (.array .int), accessFlags := 18, slot := 51, constantValue := 0 }, { name := "brk", type := (.array .boolean), accessFlags := 18, slot := 52, constantValue := 0 }, { name := "locKind", type := (.array .int), accessFlags := 18, slot := 53, constantValue := 0 }, { name := "locVal", type := (.array .int), accessFlags := 18, slot := 54, constantValue := 0 }, { name := "cOp", type := (.array .int), accessFlags := 18, slot := 55, constantValue := 0 }, { name := "cA", type := (.array .int), accessFlags := 18, slot := 56, constantValue := 0 }, { name := "cB", type := (.array .int), accessFlags := 18, slot := 57, constantValue := 0 }, { name := "cC", type := (.array .int), accessFlags := 18, slot := 58, constantValue := 0 }, { name := "codeLen", type := .int, accessFlags := 2, slot := 59, constantValue := 0 }, { name := "mem", type := (.array .int), accessFlags := 18, slot := 60, constantValue := 0 }, { name := "reg", type := (.array .int), accessFlags := 18, slot := 61, constantValue := 0 }, { name := "cur", type := .int, accessFlags := 2, slot := 62, constantValue := 0 }, { name := "steps", type := .int, accessFlags := 2, slot := 63, constantValue := 0 }, { name := "lastV", type := .int, accessFlags := 2, slot := 64, constantValue := 0 }, { name := "lastVal", type := .int, accessFlags := 2, slot := 65, constantValue := 0 }, { name := "pState", type := .int, accessFlags := 2, slot := 66, constantValue := 0 }, { name := "curStmt", type := .int, accessFlags := 2, slot := 67, constantValue := 0 }, { name := "blkDepth", type := .int, accessFlags := 2, slot := 68, constantValue := 0 }, { name := "blkOwner", type := (.array .int), accessFlags := 18, slot := 69, constantValue := 0 }, { name := "blkLast", type := (.array .int), accessFlags := 18, slot := 70, constantValue := 0 }, { name := "entKind", type := (.array .int), accessFlags := 18, slot := 71, constantValue := 0 }, { name := "entVal", type := (.array .int), accessFlags := 18, slot := 72, constantValue := 0 }, { name := "entTop", type := .int, accessFlags := 2, slot := 73, constantValue := 0 }, { name := "regOwner", type := (.array .int), accessFlags := 18, slot := 74, constantValue := 0 }, { name := "opStk", type := (.array .int), accessFlags := 18, slot := 75, constantValue := 0 }, { name := "opTop", type := .int, accessFlags := 2, slot := 76, constantValue := 0 }, { name := "cmpSeen", type := (.array .boolean), accessFlags := 18, slot := 77, constantValue := 0 }, { name := "parenDepth", type := .int, accessFlags := 2, slot := 78, constantValue := 0 }]
  methods := #[k2m0, k2m1, k2m2, k2m3, k2m4, k2m5, k2m6, k2m7, k2m8, k2m9, k2m10, k2m11, k2m12, k2m13, k2m14, k2m15, k2m16, k2m17, k2m18, k2m19, k2m20, k2m21, k2m22, k2m23, k2m24, k2m25, k2m26, k2m27, k2m28, k2m29, k2m30, k2m31, k2m32, k2m33, k2m34, k2m35, k2m36, k2m37, k2m38, k2m39, k2m40, k2m41, k2m42, k2m43, k2m44, k2m45, k2m46, k2m47, k2m48, k2m49, k2m50, k2m51, k2m52, k2m53, k2m54, k2m55, k2m56, k2m57, k2m58, k2m59]
  instanceTypes := #[.int, .int, .int, .int, .int, .int, .int, .int, .int, .int, .int, .int, .int, .int, .int, .int, .int, .int, .int, .int, .int, .int, .int, .int, .int, .int, .int, .int, .int, .int, .int, .int, .boolean, .int, (.array .int), (.array .int), .int, .int, .int, (.array .int), (.array .int), (.array .int), (.array .int), (.array .int), (.array .int), (.array .int), (.array .int), (.array .int), (.array .int), (.array .int), (.array .int), (.array .int), (.array .boolean), (.array .int), (.array .int), (.array .int), (.array .int), (.array .int), (.array .int), .int, (.array .int), (.array .int), .int, .int, .int, .int, .int, .int, .int, (.array .int), (.array .int), (.array .int), (.array .int), .int, (.array .int), (.array .int), .int, (.array .boolean), .int]
  staticTypes := #[.int, .int, .int, .int, .int, .int, .int, .int, .int, .int, .int, .int, .int, .int, .int, .int, .int, .int, .int, .int, .int, .int, .int, .int, .int, .int, .int]
  resolved := Array.replicate 499 none
  statics := none }

def pool3 : Array CpInfo := pool [(1, u "java/lang/Cloneable"), (0, .class_ 1), (0, u "java/lang/Object"), (0, .class_ 3)] 3

/-- java/lang/Cloneable -/
def k3 : Class := { plain "java/lang/Cloneable" (some 0) with
  accessFlags := 1537
  interfaces := #[]
  cf := some (fileOf pool3 2 #[] #[] 1537 4 #[] #[])
  fields := #[]
  methods := #[]
  instanceTypes := #[]
  staticTypes := #[]
  resolved := Array.replicate 8 none
  statics := none }

def pool4 : Array CpInfo := pool [(1, u "java/io/Serializable"), (0, .class_ 1), (0, u "java/lang/Object"), (0, .class_ 3)] 3

/-- java/io/Serializable -/
def k4 : Class := { plain "java/io/Serializable" (some 0) with
  accessFlags := 1537
  interfaces := #[]
  cf := some (fileOf pool4 2 #[] #[] 1537 4 #[] #[])
  fields := #[]
  methods := #[]
  instanceTypes := #[]
  staticTypes := #[]
  resolved := Array.replicate 8 none
  statics := none }

/-- the primitive boolean -/
def k5 : Class := { plain "boolean" none with kind := .primitive 'Z', accessFlags := 0x411 }
/-- [Z -/
def k6 : Class := { plain "[Z" (some 0) with kind := .array 5 .boolean, interfaces := #[3, 4], accessFlags := 1041 }

/-- the primitive byte -/
def k7 : Class := { plain "byte" none with kind := .primitive 'B', accessFlags := 0x411 }
/-- [B -/
def k8 : Class := { plain "[B" (some 0) with kind := .array 7 .byte, interfaces := #[3, 4], accessFlags := 1041 }

/-- the primitive int -/
def k9 : Class := { plain "int" none with kind := .primitive 'I', accessFlags := 0x411 }
/-- [I -/
def k10 : Class := { plain "[I" (some 0) with kind := .array 9 .int, interfaces := #[3, 4], accessFlags := 1041 }

def heap : Heap := #[{ cls := 10, slots := #[.int 0, .int 1, .int 2], vm := .none }]
def classes : Array Class := #[k0, k1, k2, k3, k4, k5, k6, k7, k8, k9, k10]
def interned : List (Array UInt16 × Addr) := []
def slotsUsed : Nat := 3
def theMethod : MethodId := ⟨1, 6⟩
def args0 : Array Value := #[.ref 0]
def aboutOver (below : List Frame) : State where
  vm := { classes := classes, interned := interned.toArray }
  heap := heap
  slotsUsed := slotsUsed
  threads := #[{ frames := .invoking theMethod args0 :: below }]
def below0 : List Frame := [.native { method := ⟨0, 0⟩, args := #[] }]
def about1 : State := aboutOver below0
def p0 : Program := .bare "" "" ""
def e0 : Env := launch0.env 0 0 0
theorem w_frames : about1.frames = Frame.invoking theMethod args0 :: below0 := rfl
set_option maxRecDepth 65536 in
theorem w_args : argsFit about1.vm theMethod args0 = true := by decide +kernel
set_option maxRecDepth 65536 in
theorem w_heap : heapFits about1 = true := by decide +kernel
set_option maxRecDepth 65536 in
theorem w_runnable : about1.curStatus? = some .runnable := by decide +kernel
set_option maxRecDepth 65536 in
theorem w_alone : about1.alone = true := by decide +kernel
set_option maxRecDepth 65536 in
theorem w_named : about1.methodNamed? x = some theMethod := by decide +kernel
set_option maxRecDepth 65536 in
theorem w_hears : about1.hears theMethod below0 = true := by decide +kernel
set_option maxRecDepth 65536 in
theorem w_ripe : about1.ripe theMethod args0 below0 = true := by decide +kernel
theorem w_running : about1.status = .running := rfl
set_option maxRecDepth 65536 in
theorem w_room : about1.hasRoom e0.platform room_1 = true :=
  launch0.hasRoom_least _ room_1 (by decide +kernel) (by decide +kernel) (by decide +kernel) (by decide +kernel) (by decide +kernel) (by decide +kernel)
theorem allAtoms_all (ts : List Jvm.Cond) (a : Array Jvm.Value) (st : Jvm.State) : (allAtoms ts).before a st = ts.all (fun c => c.before a st) := by
  induction ts with
  | nil => rfl
  | cons c t ih =>
    show (Jvm.Cond.and c (allAtoms t)).before a st = _
    rw [Jvm.Cond.before_and, ih, List.all_cons]
def words1 : List Jvm.Cond := Jvm.Cond.code x code maxLocals ret :: tables_1
/-- a 'code' word, met by the world's own term for the bytes: nothing is compared byte by byte -/
theorem code_word {y : MethodName} {bytes : ByteArray} {mx : Nat} {rt : Option FieldType} {a : Array Value} {s : State} {m : MethodId} {meth : Method} {c : Code} (h1 : s.methodNamed? y = some m) (h2 : s.vm.method? m = some meth) (h3 : meth.code = some c) (h4 : c.code = bytes)
    (h5 : (c.maxLocals == mx && c.exceptionTable.isEmpty && decide (c.maxStack ≤ mostOperands) && decide (meth.sig.returnType = rt) && !meth.locks && decide (parseMethodDescriptor y.desc = some meth.sig)) = true) : (Jvm.Cond.code y bytes mx rt).before a s = true := by
  simp only [Bool.and_eq_true, beq_iff_eq, Bool.not_eq_true', decide_eq_true_eq] at h5
  obtain ⟨⟨⟨⟨⟨g1, g2⟩, g3⟩, g4⟩, g5⟩, g6⟩ := h5
  simp [Cond.before, Cond.holds, Cond.value, h1, h2, h3, h4, g1, g2, g3, g4, g5, g6]
def isCode : Jvm.Cond → Bool
  | .code _ _ _ _ => true
  | _ => false
theorem all_split {L : List Jvm.Cond} {P : Jvm.Cond → Bool} (h1 : L.all (fun c => isCode c || P c) = true) (h2 : ∀ c ∈ L.filter isCode, P c = true) : L.all P = true := by
  refine List.all_eq_true.mpr fun c hc => ?_
  have h := List.all_eq_true.mp h1 c hc
  rcases Bool.eq_false_or_eq_true (isCode c) with hi | hi
  · exact h2 c (List.mem_filter.mpr ⟨hc, hi⟩)
  · simpa [hi] using h
set_option maxRecDepth 65536 in
theorem w_c0 : (Jvm.Cond.code x code maxLocals ret).before args0 about1 = true := code_word (m := ⟨1, 6⟩) (meth := k1m6) (c := k1c6) (by decide +kernel) rfl rfl rfl (by decide +kernel)
set_option maxRecDepth 65536 in
theorem w_c1 : (Jvm.Cond.code ({ cls := "LocListDebugOwnLaw", name := "cell", desc := "([II)I" } : Jvm.MethodName) method_2_code (2 : Nat) (Option.some Jvm.ClassFile.FieldType.int)).before args0 about1 = true := code_word (m := ⟨1, 1⟩) (meth := k1m1) (c := k1c1) (by decide +kernel) rfl rfl rfl (by decide +kernel)
set_option maxRecDepth 65536 in
theorem w_c2 : (Jvm.Cond.code ({ cls := "LocListDebug", name := "<init>", desc := "(I)V" } : Jvm.MethodName) prog_1_method_1_code (3 : Nat) (Option.none : Option Jvm.ClassFile.FieldType)).before args0 about1 = true := code_word (m := ⟨2, 0⟩) (meth := k2m0) (c := k2c0) (by decide +kernel) rfl rfl rfl (by decide +kernel)
set_option maxRecDepth 65536 in
theorem w_c3 : (Jvm.Cond.code ({ cls := "java/lang/Object", name := "<init>", desc := "()V" } : Jvm.MethodName) object_method_1_code (1 : Nat) (Option.none : Option Jvm.ClassFile.FieldType)).before args0 about1 = true := code_word (m := ⟨0, 0⟩) (meth := k0m0) (c := k0c0) (by decide +kernel) rfl rfl rfl (by decide +kernel)
set_option maxRecDepth 65536 in
theorem w_c4 : (Jvm.Cond.code ({ cls := "LocListDebug", name := "clearAll", desc := "()V" } : Jvm.MethodName) prog_1_method_18_code (1 : Nat) (Option.none : Option Jvm.ClassFile.FieldType)).before args0 about1 = true := code_word (m := ⟨2, 12⟩) (meth := k2m12) (c := k2c12) (by decide +kernel) rfl rfl rfl (by decide +kernel)
set_option maxRecDepth 65536 in
theorem w_c5 : (Jvm.Cond.code ({ cls := "LocListDebug", name := "clearBreaks", desc := "()V" } : Jvm.MethodName) prog_1_method_19_code (2 : Nat) (Option.none : Option Jvm.ClassFile.FieldType)).before args0 about1 = true := code_word (m := ⟨2, 13⟩) (meth := k2m13) (c := k2c13) (by decide +kernel) rfl rfl rfl (by decide +kernel)
set_option maxRecDepth 65536 in
theorem w_c6 : (Jvm.Cond.code ({ cls := "LocListDebug", name := "addToken", desc := "(II)Z" } : Jvm.MethodName) prog_1_method_2_code (3 : Nat) (Option.some Jvm.ClassFile.FieldType.boolean)).before args0 about1 = true := code_word (m := ⟨2, 1⟩) (meth := k2m1) (c := k2c1) (by decide +kernel) rfl rfl rfl (by decide +kernel)
set_option maxRecDepth 65536 in
theorem w_c7 : (Jvm.Cond.code ({ cls := "LocListDebug", name := "compile", desc := "()I" } : Jvm.MethodName) prog_1_method_5_code (2 : Nat) (Option.some Jvm.ClassFile.FieldType.int)).before args0 about1 = true := code_word (m := ⟨2, 2⟩) (meth := k2m2) (c := k2c2) (by decide +kernel) rfl rfl rfl (by decide +kernel)
set_option maxRecDepth 65536 in
theorem w_c8 : (Jvm.Cond.code ({ cls := "LocListDebug", name := "parseAll", desc := "()I" } : Jvm.MethodName) prog_1_method_23_code (2 : Nat) (Option.some Jvm.ClassFile.FieldType.int)).before args0 about1 = true := code_word (m := ⟨2, 17⟩) (meth := k2m17) (c := k2c17) (by decide +kernel) rfl rfl rfl (by decide +kernel)
set_option maxRecDepth 65536 in
theorem w_c9 : (Jvm.Cond.code ({ cls := "LocListDebug", name := "beginParse", desc := "()V" } : Jvm.MethodName) prog_1_method_24_code (1 : Nat) (Option.none : Option Jvm.ClassFile.FieldType)).before args0 about1 = true := code_word (m := ⟨2, 18⟩) (meth := k2m18) (c := k2c18) (by decide +kernel) rfl rfl rfl (by decide +kernel)
set_option maxRecDepth 65536 in
theorem w_c10 : (Jvm.Cond.code ({ cls := "LocListDebug", name := "resetExpr", desc := "()V" } : Jvm.MethodName) prog_1_method_30_code (2 : Nat) (Option.none : Option Jvm.ClassFile.FieldType)).before args0 about1 = true := code_word (m := ⟨2, 24⟩) (meth := k2m24) (c := k2c24) (by decide +kernel) rfl rfl rfl (by decide +kernel)
set_option maxRecDepth 65536 in
theorem w_c11 : (Jvm.Cond.code ({ cls := "LocListDebug", name := "feed", desc := "(II)Z" } : Jvm.MethodName) prog_1_method_25_code (3 : Nat) (Option.some Jvm.ClassFile.FieldType.boolean)).before args0 about1 = true := code_word (m := ⟨2, 19⟩) (meth := k2m19) (c := k2c19) (by decide +kernel) rfl rfl rfl (by decide +kernel)
set_option maxRecDepth 65536 in
theorem w_c12 : (Jvm.Cond.code ({ cls := "LocListDebug", name := "feedStatementStart", desc := "(II)Z" } : Jvm.MethodName) prog_1_method_26_code (4 : Nat) (Option.some Jvm.ClassFile.FieldType.boolean)).before args0 about1 = true := code_word (m := ⟨2, 20⟩) (meth := k2m20) (c := k2c20) (by decide +kernel) rfl rfl rfl (by decide +kernel)
set_option maxRecDepth 65536 in
theorem w_c13 : (Jvm.Cond.code ({ cls := "LocListDebug", name := "newStatement", desc := "(I)I" } : Jvm.MethodName) prog_1_method_27_code (5 : Nat) (Option.some Jvm.ClassFile.FieldType.int)).before args0 about1 = true := code_word (m := ⟨2, 21⟩) (meth := k2m21) (c := k2c21) (by decide +kernel) rfl rfl rfl (by decide +kernel)
set_option maxRecDepth 65536 in
theorem w_c14 : (Jvm.Cond.code ({ cls := "LocListDebug", name := "feedOperand", desc := "(II)Z" } : Jvm.MethodName) prog_1_method_31_code (4 : Nat) (Option.some Jvm.ClassFile.FieldType.boolean)).before args0 about1 = true := code_word (m := ⟨2, 25⟩) (meth := k2m25) (c := k2c25) (by decide +kernel) rfl rfl rfl (by decide +kernel)
set_option maxRecDepth 65536 in
theorem w_c15 : (Jvm.Cond.code ({ cls := "LocListDebug", name := "pushEntry", desc := "(II)Z" } : Jvm.MethodName) prog_1_method_39_code (3 : Nat) (Option.some Jvm.ClassFile.FieldType.boolean)).before args0 about1 = true := code_word (m := ⟨2, 32⟩) (meth := k2m32) (c := k2c32) (by decide +kernel) rfl rfl rfl (by decide +kernel)
set_option maxRecDepth 65536 in
theorem w_c16 : (Jvm.Cond.code ({ cls := "LocListDebug", name := "feedOperator", desc := "(I)Z" } : Jvm.MethodName) prog_1_method_32_code (3 : Nat) (Option.some Jvm.ClassFile.FieldType.boolean)).before args0 about1 = true := code_word (m := ⟨2, 26⟩) (meth := k2m26) (c := k2c26) (by decide +kernel) rfl rfl rfl (by decide +kernel)
set_option maxRecDepth 65536 in
theorem w_c17 : (Jvm.Cond.code ({ cls := "LocListDebug", name := "isBinaryToken", desc := "(I)Z" } : Jvm.MethodName) prog_1_method_35_code (2 : Nat) (Option.some Jvm.ClassFile.FieldType.boolean)).before args0 about1 = true := code_word (m := ⟨2, 28⟩) (meth := k2m28) (c := k2c28) (by decide +kernel) rfl rfl rfl (by decide +kernel)
set_option maxRecDepth 65536 in
theorem w_c18 : (Jvm.Cond.code ({ cls := "LocListDebug", name := "curIsAssign", desc := "()Z" } : Jvm.MethodName) prog_1_method_29_code (1 : Nat) (Option.some Jvm.ClassFile.FieldType.boolean)).before args0 about1 = true := code_word (m := ⟨2, 23⟩) (meth := k2m23) (c := k2c23) (by decide +kernel) rfl rfl rfl (by decide +kernel)
set_option maxRecDepth 65536 in
theorem w_c19 : (Jvm.Cond.code ({ cls := "LocListDebug", name := "reduceWhile", desc := "(I)V" } : Jvm.MethodName) prog_1_method_38_code (5 : Nat) (Option.none : Option Jvm.ClassFile.FieldType)).before args0 about1 = true := code_word (m := ⟨2, 31⟩) (meth := k2m31) (c := k2c31) (by decide +kernel) rfl rfl rfl (by decide +kernel)
set_option maxRecDepth 65536 in
theorem w_c20 : (Jvm.Cond.code ({ cls := "LocListDebug", name := "finishAssignment", desc := "()V" } : Jvm.MethodName) prog_1_method_51_code (4 : Nat) (Option.none : Option Jvm.ClassFile.FieldType)).before args0 about1 = true := code_word (m := ⟨2, 41⟩) (meth := k2m41) (c := k2c41) (by decide +kernel) rfl rfl rfl (by decide +kernel)
set_option maxRecDepth 65536 in
theorem w_c21 : (Jvm.Cond.code ({ cls := "LocListDebug", name := "emit", desc := "(IIII)I" } : Jvm.MethodName) prog_1_method_53_code (6 : Nat) (Option.some Jvm.ClassFile.FieldType.int)).before args0 about1 = true := code_word (m := ⟨2, 43⟩) (meth := k2m43) (c := k2c43) (by decide +kernel) rfl rfl rfl (by decide +kernel)
set_option maxRecDepth 65536 in
theorem w_c22 : (Jvm.Cond.code ({ cls := "LocListDebug", name := "linkStatements", desc := "()V" } : Jvm.MethodName) prog_1_method_54_code (2 : Nat) (Option.none : Option Jvm.ClassFile.FieldType)).before args0 about1 = true := code_word (m := ⟨2, 44⟩) (meth := k2m44) (c := k2c44) (by decide +kernel) rfl rfl rfl (by decide +kernel)
set_option maxRecDepth 65536 in
theorem w_c23 : (Jvm.Cond.code ({ cls := "LocListDebug", name := "successorOf", desc := "(I)I" } : Jvm.MethodName) prog_1_method_55_code (5 : Nat) (Option.some Jvm.ClassFile.FieldType.int)).before args0 about1 = true := code_word (m := ⟨2, 45⟩) (meth := k2m45) (c := k2c45) (by decide +kernel) rfl rfl rfl (by decide +kernel)
set_option maxRecDepth 65536 in
theorem w_c24 : (Jvm.Cond.code ({ cls := "LocListDebug", name := "patchTerminator", desc := "(I)V" } : Jvm.MethodName) prog_1_method_56_code (5 : Nat) (Option.none : Option Jvm.ClassFile.FieldType)).before args0 about1 = true := code_word (m := ⟨2, 46⟩) (meth := k2m46) (c := k2c46) (by decide +kernel) rfl rfl rfl (by decide +kernel)
set_option maxRecDepth 65536 in
theorem w_c25 : (Jvm.Cond.code ({ cls := "LocListDebug", name := "computeMasks", desc := "()V" } : Jvm.MethodName) prog_1_method_58_code (3 : Nat) (Option.none : Option Jvm.ClassFile.FieldType)).before args0 about1 = true := code_word (m := ⟨2, 48⟩) (meth := k2m48) (c := k2c48) (by decide +kernel) rfl rfl rfl (by decide +kernel)
set_option maxRecDepth 65536 in
theorem w_c26 : (Jvm.Cond.code ({ cls := "LocListDebug", name := "bitOf", desc := "(I)I" } : Jvm.MethodName) prog_1_method_57_code (2 : Nat) (Option.some Jvm.ClassFile.FieldType.int)).before args0 about1 = true := code_word (m := ⟨2, 47⟩) (meth := k2m47) (c := k2c47) (by decide +kernel) rfl rfl rfl (by decide +kernel)
set_option maxRecDepth 65536 in
theorem w_c27 : (Jvm.Cond.code ({ cls := "LocListDebug", name := "computeDefs", desc := "()V" } : Jvm.MethodName) prog_1_method_59_code (4 : Nat) (Option.none : Option Jvm.ClassFile.FieldType)).before args0 about1 = true := code_word (m := ⟨2, 49⟩) (meth := k2m49) (c := k2c49) (by decide +kernel) rfl rfl rfl (by decide +kernel)
set_option maxRecDepth 65536 in
theorem w_c28 : (Jvm.Cond.code ({ cls := "LocListDebug", name := "buildLocationLists", desc := "()V" } : Jvm.MethodName) prog_1_method_60_code (3 : Nat) (Option.none : Option Jvm.ClassFile.FieldType)).before args0 about1 = true := code_word (m := ⟨2, 50⟩) (meth := k2m50) (c := k2c50) (by decide +kernel) rfl rfl rfl (by decide +kernel)
set_option maxRecDepth 65536 in
theorem w_c29 : (Jvm.Cond.code ({ cls := "LocListDebug", name := "locate", desc := "(II)V" } : Jvm.MethodName) prog_1_method_61_code (8 : Nat) (Option.none : Option Jvm.ClassFile.FieldType)).before args0 about1 = true := code_word (m := ⟨2, 51⟩) (meth := k2m51) (c := k2c51) (by decide +kernel) rfl rfl rfl (by decide +kernel)
set_option maxRecDepth 65536 in
theorem w_c30 : (Jvm.Cond.code ({ cls := "LocListDebug", name := "describeDefinition", desc := "(IIZ)V" } : Jvm.MethodName) prog_1_method_62_code (4 : Nat) (Option.none : Option Jvm.ClassFile.FieldType)).before args0 about1 = true := code_word (m := ⟨2, 52⟩) (meth := k2m52) (c := k2c52) (by decide +kernel) rfl rfl rfl (by decide +kernel)
set_option maxRecDepth 65536 in
theorem w_c31 : (Jvm.Cond.code ({ cls := "LocListDebug", name := "restartMachine", desc := "()V" } : Jvm.MethodName) prog_1_method_20_code (2 : Nat) (Option.none : Option Jvm.ClassFile.FieldType)).before args0 about1 = true := code_word (m := ⟨2, 14⟩) (meth := k2m14) (c := k2c14) (by decide +kernel) rfl rfl rfl (by decide +kernel)
set_option maxRecDepth 65536 in
theorem w_c32 : (Jvm.Cond.code ({ cls := "LocListDebug", name := "statementCount", desc := "()I" } : Jvm.MethodName) prog_1_method_7_code (1 : Nat) (Option.some Jvm.ClassFile.FieldType.int)).before args0 about1 = true := code_word (m := ⟨2, 3⟩) (meth := k2m3) (c := k2c3) (by decide +kernel) rfl rfl rfl (by decide +kernel)
set_option maxRecDepth 65536 in
theorem w_c33 : (Jvm.Cond.code ({ cls := "LocListDebug", name := "isAvailable", desc := "(I)Z" } : Jvm.MethodName) prog_1_method_14_code (3 : Nat) (Option.some Jvm.ClassFile.FieldType.boolean)).before args0 about1 = true := code_word (m := ⟨2, 8⟩) (meth := k2m8) (c := k2c8) (by decide +kernel) rfl rfl rfl (by decide +kernel)
set_option maxRecDepth 65536 in
theorem w_c34 : (Jvm.Cond.code ({ cls := "LocListDebug", name := "stopIndex", desc := "()I" } : Jvm.MethodName) prog_1_method_22_code (1 : Nat) (Option.some Jvm.ClassFile.FieldType.int)).before args0 about1 = true := code_word (m := ⟨2, 16⟩) (meth := k2m16) (c := k2c16) (by decide +kernel) rfl rfl rfl (by decide +kernel)
set_option maxRecDepth 65536 in
theorem w_c35 : (Jvm.Cond.code ({ cls := "LocListDebug", name := "value", desc := "(I)I" } : Jvm.MethodName) prog_1_method_15_code (3 : Nat) (Option.some Jvm.ClassFile.FieldType.int)).before args0 about1 = true := code_word (m := ⟨2, 9⟩) (meth := k2m9) (c := k2c9) (by decide +kernel) rfl rfl rfl (by decide +kernel)
set_option maxRecDepth 65536 in
theorem w_c36 : (Jvm.Cond.code ({ cls := "LocListDebug", name := "where", desc := "()I" } : Jvm.MethodName) prog_1_method_12_code (1 : Nat) (Option.some Jvm.ClassFile.FieldType.int)).before args0 about1 = true := code_word (m := ⟨2, 7⟩) (meth := k2m7) (c := k2c7) (by decide +kernel) rfl rfl rfl (by decide +kernel)
set_option maxRecDepth 65536 in
theorem w_c37 : (Jvm.Cond.code ({ cls := "LocListDebug", name := "step", desc := "()I" } : Jvm.MethodName) prog_1_method_9_code (1 : Nat) (Option.some Jvm.ClassFile.FieldType.int)).before args0 about1 = true := code_word (m := ⟨2, 4⟩) (meth := k2m4) (c := k2c4) (by decide +kernel) rfl rfl rfl (by decide +kernel)
set_option maxRecDepth 65536 in
theorem w_c38 : (Jvm.Cond.code ({ cls := "LocListDebug", name := "stepOnce", desc := "()V" } : Jvm.MethodName) prog_1_method_64_code (2 : Nat) (Option.none : Option Jvm.ClassFile.FieldType)).before args0 about1 = true := code_word (m := ⟨2, 54⟩) (meth := k2m54) (c := k2c54) (by decide +kernel) rfl rfl rfl (by decide +kernel)
set_option maxRecDepth 65536 in
theorem w_c39 : (Jvm.Cond.code ({ cls := "LocListDebug", name := "execStatement", desc := "(I)I" } : Jvm.MethodName) prog_1_method_65_code (5 : Nat) (Option.some Jvm.ClassFile.FieldType.int)).before args0 about1 = true := code_word (m := ⟨2, 55⟩) (meth := k2m55) (c := k2c55) (by decide +kernel) rfl rfl rfl (by decide +kernel)
set_option maxRecDepth 65536 in
theorem w_c40 : (Jvm.Cond.code ({ cls := "LocListDebug", name := "execInstruction", desc := "(I)V" } : Jvm.MethodName) prog_1_method_66_code (8 : Nat) (Option.none : Option Jvm.ClassFile.FieldType)).before args0 about1 = true := code_word (m := ⟨2, 56⟩) (meth := k2m56) (c := k2c56) (by decide +kernel) rfl rfl rfl (by decide +kernel)
set_option maxRecDepth 65536 in
theorem w_c41 : (Jvm.Cond.code ({ cls := "LocListDebug", name := "store", desc := "(II)V" } : Jvm.MethodName) prog_1_method_68_code (3 : Nat) (Option.none : Option Jvm.ClassFile.FieldType)).before args0 about1 = true := code_word (m := ⟨2, 58⟩) (meth := k2m58) (c := k2c58) (by decide +kernel) rfl rfl rfl (by decide +kernel)
set_option maxRecDepth 65536 in
theorem w_c42 : (Jvm.Cond.code ({ cls := "LocListDebug", name := "lastVar", desc := "()I" } : Jvm.MethodName) prog_1_method_16_code (1 : Nat) (Option.some Jvm.ClassFile.FieldType.int)).before args0 about1 = true := code_word (m := ⟨2, 10⟩) (meth := k2m10) (c := k2c10) (by decide +kernel) rfl rfl rfl (by decide +kernel)
set_option maxRecDepth 65536 in
theorem w_c43 : (Jvm.Cond.code ({ cls := "LocListDebug", name := "lastValue", desc := "()I" } : Jvm.MethodName) prog_1_method_17_code (1 : Nat) (Option.some Jvm.ClassFile.FieldType.int)).before args0 about1 = true := code_word (m := ⟨2, 11⟩) (meth := k2m11) (c := k2c11) (by decide +kernel) rfl rfl rfl (by decide +kernel)
set_option maxRecDepth 65536 in
theorem w_c44 : (Jvm.Cond.code ({ cls := "LocListDebugOwnLaw", name := "putHalf", desc := "(JII)J" } : Jvm.MethodName) method_4_code (4 : Nat) (Option.some Jvm.ClassFile.FieldType.long)).before args0 about1 = true := code_word (m := ⟨1, 3⟩) (meth := k1m3) (c := k1c3) (by decide +kernel) rfl rfl rfl (by decide +kernel)
set_option maxRecDepth 65536 in
theorem w_c45 : (Jvm.Cond.code ({ cls := "LocListDebug", name := "readLocation", desc := "(II)I" } : Jvm.MethodName) prog_1_method_63_code (3 : Nat) (Option.some Jvm.ClassFile.FieldType.int)).before args0 about1 = true := code_word (m := ⟨2, 53⟩) (meth := k2m53) (c := k2c53) (by decide +kernel) rfl rfl rfl (by decide +kernel)
set_option maxRecDepth 65536 in
theorem w_c46 : (Jvm.Cond.code ({ cls := "LocListDebugOwnLaw", name := "get", desc := "(JJJJI)I" } : Jvm.MethodName) method_5_code (11 : Nat) (Option.some Jvm.ClassFile.FieldType.int)).before args0 about1 = true := code_word (m := ⟨1, 4⟩) (meth := k1m4) (c := k1c4) (by decide +kernel) rfl rfl rfl (by decide +kernel)
set_option maxRecDepth 65536 in
theorem w_c47 : (Jvm.Cond.code ({ cls := "LocListDebugOwnLaw", name := "getHalf", desc := "(JI)I" } : Jvm.MethodName) method_3_code (3 : Nat) (Option.some Jvm.ClassFile.FieldType.int)).before args0 about1 = true := code_word (m := ⟨1, 2⟩) (meth := k1m2) (c := k1c2) (by decide +kernel) rfl rfl rfl (by decide +kernel)
set_option maxRecDepth 65536 in
theorem w_c48 : (Jvm.Cond.code ({ cls := "LocListDebug", name := "takeBinary", desc := "(I)Z" } : Jvm.MethodName) prog_1_method_33_code (3 : Nat) (Option.some Jvm.ClassFile.FieldType.boolean)).before args0 about1 = true := code_word (m := ⟨2, 27⟩) (meth := k2m27) (c := k2c27) (by decide +kernel) rfl rfl rfl (by decide +kernel)
set_option maxRecDepth 65536 in
theorem w_c49 : (Jvm.Cond.code ({ cls := "LocListDebug", name := "precedence", desc := "(I)I" } : Jvm.MethodName) prog_1_method_36_code (2 : Nat) (Option.some Jvm.ClassFile.FieldType.int)).before args0 about1 = true := code_word (m := ⟨2, 29⟩) (meth := k2m29) (c := k2c29) (by decide +kernel) rfl rfl rfl (by decide +kernel)
set_option maxRecDepth 65536 in
theorem w_c50 : (Jvm.Cond.code ({ cls := "LocListDebug", name := "pushOp", desc := "(I)Z" } : Jvm.MethodName) prog_1_method_37_code (2 : Nat) (Option.some Jvm.ClassFile.FieldType.boolean)).before args0 about1 = true := code_word (m := ⟨2, 30⟩) (meth := k2m30) (c := k2c30) (by decide +kernel) rfl rfl rfl (by decide +kernel)
set_option maxRecDepth 65536 in
theorem w_c51 : (Jvm.Cond.code ({ cls := "LocListDebug", name := "applyOp", desc := "(I)V" } : Jvm.MethodName) prog_1_method_40_code (2 : Nat) (Option.none : Option Jvm.ClassFile.FieldType)).before args0 about1 = true := code_word (m := ⟨2, 33⟩) (meth := k2m33) (c := k2c33) (by decide +kernel) rfl rfl rfl (by decide +kernel)
set_option maxRecDepth 65536 in
theorem w_c52 : (Jvm.Cond.code ({ cls := "LocListDebug", name := "applyBinary", desc := "(I)V" } : Jvm.MethodName) prog_1_method_42_code (6 : Nat) (Option.none : Option Jvm.ClassFile.FieldType)).before args0 about1 = true := code_word (m := ⟨2, 34⟩) (meth := k2m34) (c := k2c34) (by decide +kernel) rfl rfl rfl (by decide +kernel)
set_option maxRecDepth 65536 in
theorem w_c53 : (Jvm.Cond.code ({ cls := "LocListDebug", name := "simplify", desc := "(III)Z" } : Jvm.MethodName) prog_1_method_43_code (5 : Nat) (Option.some Jvm.ClassFile.FieldType.boolean)).before args0 about1 = true := code_word (m := ⟨2, 35⟩) (meth := k2m35) (c := k2c35) (by decide +kernel) rfl rfl rfl (by decide +kernel)
set_option maxRecDepth 65536 in
theorem w_c54 : (Jvm.Cond.code ({ cls := "LocListDebug", name := "rightIdentity", desc := "(II)I" } : Jvm.MethodName) prog_1_method_44_code (3 : Nat) (Option.some Jvm.ClassFile.FieldType.int)).before args0 about1 = true := code_word (m := ⟨2, 36⟩) (meth := k2m36) (c := k2c36) (by decide +kernel) rfl rfl rfl (by decide +kernel)
set_option maxRecDepth 65536 in
theorem w_c55 : (Jvm.Cond.code ({ cls := "LocListDebug", name := "materialize", desc := "(II)I" } : Jvm.MethodName) prog_1_method_49_code (5 : Nat) (Option.some Jvm.ClassFile.FieldType.int)).before args0 about1 = true := code_word (m := ⟨2, 39⟩) (meth := k2m39) (c := k2c39) (by decide +kernel) rfl rfl rfl (by decide +kernel)
set_option maxRecDepth 65536 in
theorem w_c56 : (Jvm.Cond.code ({ cls := "LocListDebug", name := "allocRegister", desc := "(II)I" } : Jvm.MethodName) prog_1_method_50_code (5 : Nat) (Option.some Jvm.ClassFile.FieldType.int)).before args0 about1 = true := code_word (m := ⟨2, 40⟩) (meth := k2m40) (c := k2c40) (by decide +kernel) rfl rfl rfl (by decide +kernel)
set_option maxRecDepth 65536 in
theorem w_c57 : (Jvm.Cond.code ({ cls := "LocListDebug", name := "finishCondition", desc := "()V" } : Jvm.MethodName) prog_1_method_52_code (3 : Nat) (Option.none : Option Jvm.ClassFile.FieldType)).before args0 about1 = true := code_word (m := ⟨2, 42⟩) (meth := k2m42) (c := k2c42) (by decide +kernel) rfl rfl rfl (by decide +kernel)
set_option maxRecDepth 65536 in
theorem w_c58 : (Jvm.Cond.code ({ cls := "LocListDebug", name := "openBlock", desc := "()Z" } : Jvm.MethodName) prog_1_method_28_code (1 : Nat) (Option.some Jvm.ClassFile.FieldType.boolean)).before args0 about1 = true := code_word (m := ⟨2, 22⟩) (meth := k2m22) (c := k2c22) (by decide +kernel) rfl rfl rfl (by decide +kernel)
set_option maxRecDepth 65536 in
theorem w_c59 : (Jvm.Cond.code ({ cls := "LocListDebug", name := "load", desc := "(I)I" } : Jvm.MethodName) prog_1_method_67_code (2 : Nat) (Option.some Jvm.ClassFile.FieldType.int)).before args0 about1 = true := code_word (m := ⟨2, 57⟩) (meth := k2m57) (c := k2c57) (by decide +kernel) rfl rfl rfl (by decide +kernel)
set_option maxRecDepth 65536 in
theorem w_c60 : (Jvm.Cond.code ({ cls := "LocListDebug", name := "arith", desc := "(III)I" } : Jvm.MethodName) prog_1_method_69_code (4 : Nat) (Option.some Jvm.ClassFile.FieldType.int)).before args0 about1 = true := code_word (m := ⟨2, 59⟩) (meth := k2m59) (c := k2c59) (by decide +kernel) rfl rfl rfl (by decide +kernel)
set_option maxRecDepth 65536 in
theorem w_c61 : (Jvm.Cond.code ({ cls := "LocListDebug", name := "run", desc := "(I)I" } : Jvm.MethodName) prog_1_method_10_code (4 : Nat) (Option.some Jvm.ClassFile.FieldType.int)).before args0 about1 = true := code_word (m := ⟨2, 5⟩) (meth := k2m5) (c := k2c5) (by decide +kernel) rfl rfl rfl (by decide +kernel)
set_option maxRecDepth 65536 in
theorem w_c62 : (Jvm.Cond.code ({ cls := "LocListDebug", name := "restart", desc := "()Z" } : Jvm.MethodName) prog_1_method_11_code (1 : Nat) (Option.some Jvm.ClassFile.FieldType.boolean)).before args0 about1 = true := code_word (m := ⟨2, 6⟩) (meth := k2m6) (c := k2c6) (by decide +kernel) rfl rfl rfl (by decide +kernel)
set_option maxRecDepth 65536 in
theorem w_c63 : (Jvm.Cond.code ({ cls := "LocListDebug", name := "breakAt", desc := "(I)Z" } : Jvm.MethodName) prog_1_method_21_code (2 : Nat) (Option.some Jvm.ClassFile.FieldType.boolean)).before args0 about1 = true := code_word (m := ⟨2, 15⟩) (meth := k2m15) (c := k2c15) (by decide +kernel) rfl rfl rfl (by decide +kernel)
set_option maxRecDepth 65536 in
theorem w_c64 : (Jvm.Cond.code ({ cls := "LocListDebugOwnLaw", name := "opOf", desc := "(I)I" } : Jvm.MethodName) method_6_code (1 : Nat) (Option.some Jvm.ClassFile.FieldType.int)).before args0 about1 = true := code_word (m := ⟨1, 5⟩) (meth := k1m5) (c := k1c5) (by decide +kernel) rfl rfl rfl (by decide +kernel)
set_option maxRecDepth 65536 in
theorem w_c65 : (Jvm.Cond.code ({ cls := "LocListDebug", name := "releaseEntry", desc := "(I)V" } : Jvm.MethodName) prog_1_method_48_code (3 : Nat) (Option.none : Option Jvm.ClassFile.FieldType)).before args0 about1 = true := code_word (m := ⟨2, 38⟩) (meth := k2m38) (c := k2c38) (by decide +kernel) rfl rfl rfl (by decide +kernel)
set_option maxRecDepth 65536 in
theorem w_c66 : (Jvm.Cond.code ({ cls := "LocListDebug", name := "foldToZero", desc := "(II)V" } : Jvm.MethodName) prog_1_method_46_code (3 : Nat) (Option.none : Option Jvm.ClassFile.FieldType)).before args0 about1 = true := code_word (m := ⟨2, 37⟩) (meth := k2m37) (c := k2c37) (by decide +kernel) rfl rfl rfl (by decide +kernel)
def codes1 : List Jvm.Cond := [Jvm.Cond.code x code maxLocals ret, Jvm.Cond.code ({ cls := "LocListDebugOwnLaw", name := "cell", desc := "([II)I" } : Jvm.MethodName) method_2_code (2 : Nat) (Option.some Jvm.ClassFile.FieldType.int), Jvm.Cond.code ({ cls := "LocListDebug", name := "<init>", desc := "(I)V" } : Jvm.MethodName) prog_1_method_1_code (3 : Nat) (Option.none : Option Jvm.ClassFile.FieldType), Jvm.Cond.code ({ cls := "java/lang/Object", name := "<init>", desc := "()V" } : Jvm.MethodName) object_method_1_code (1 : Nat) (Option.none : Option Jvm.ClassFile.FieldType), Jvm.Cond.code ({ cls := "LocListDebug", name := "clearAll", desc := "()V" } : Jvm.MethodName) prog_1_method_18_code (1 : Nat) (Option.none : Option Jvm.ClassFile.FieldType), Jvm.Cond.code ({ cls := "LocListDebug", name := "clearBreaks", desc := "()V" } : Jvm.MethodName) prog_1_method_19_code (2 : Nat) (Option.none : Option Jvm.ClassFile.FieldType), Jvm.Cond.code ({ cls := "LocListDebug", name := "addToken", desc := "(II)Z" } : Jvm.MethodName) prog_1_method_2_code (3 : Nat) (Option.some Jvm.ClassFile.FieldType.boolean), Jvm.Cond.code ({ cls := "LocListDebug", name := "compile", desc := "()I" } : Jvm.MethodName) prog_1_method_5_code (2 : Nat) (Option.some Jvm.ClassFile.FieldType.int), Jvm.Cond.code ({ cls := "LocListDebug", name := "parseAll", desc := "()I" } : Jvm.MethodName) prog_1_method_23_code (2 : Nat) (Option.some Jvm.ClassFile.FieldType.int), Jvm.Cond.code ({ cls := "LocListDebug", name := "beginParse", desc := "()V" } : Jvm.MethodName) prog_1_method_24_code (1 : Nat) (Option.none : Option Jvm.ClassFile.FieldType), Jvm.Cond.code ({ cls := "LocListDebug", name := "resetExpr", desc := "()V" } : Jvm.MethodName) prog_1_method_30_code (2 : Nat) (Option.none : Option Jvm.ClassFile.FieldType), Jvm.Cond.code ({ cls := "LocListDebug", name := "feed", desc := "(II)Z" } : Jvm.MethodName) prog_1_method_25_code (3 : Nat) (Option.some Jvm.ClassFile.FieldType.boolean), Jvm.Cond.code ({ cls := "LocListDebug", name := "feedStatementStart", desc := "(II)Z" } : Jvm.MethodName) prog_1_method_26_code (4 : Nat) (Option.some Jvm.ClassFile.FieldType.boolean), Jvm.Cond.code ({ cls := "LocListDebug", name := "newStatement", desc := "(I)I" } : Jvm.MethodName) prog_1_method_27_code (5 : Nat) (Option.some Jvm.ClassFile.FieldType.int), Jvm.Cond.code ({ cls := "LocListDebug", name := "feedOperand", desc := "(II)Z" } : Jvm.MethodName) prog_1_method_31_code (4 : Nat) (Option.some Jvm.ClassFile.FieldType.boolean), Jvm.Cond.code ({ cls := "LocListDebug", name := "pushEntry", desc := "(II)Z" } : Jvm.MethodName) prog_1_method_39_code (3 : Nat) (Option.some Jvm.ClassFile.FieldType.boolean), Jvm.Cond.code ({ cls := "LocListDebug", name := "feedOperator", desc := "(I)Z" } : Jvm.MethodName) prog_1_method_32_code (3 : Nat) (Option.some Jvm.ClassFile.FieldType.boolean), Jvm.Cond.code ({ cls := "LocListDebug", name := "isBinaryToken", desc := "(I)Z" } : Jvm.MethodName) prog_1_method_35_code (2 : Nat) (Option.some Jvm.ClassFile.FieldType.boolean), Jvm.Cond.code ({ cls := "LocListDebug", name := "curIsAssign", desc := "()Z" } : Jvm.MethodName) prog_1_method_29_code (1 : Nat) (Option.some Jvm.ClassFile.FieldType.boolean), Jvm.Cond.code ({ cls := "LocListDebug", name := "reduceWhile", desc := "(I)V" } : Jvm.MethodName) prog_1_method_38_code (5 : Nat) (Option.none : Option Jvm.ClassFile.FieldType), Jvm.Cond.code ({ cls := "LocListDebug", name := "finishAssignment", desc := "()V" } : Jvm.MethodName) prog_1_method_51_code (4 : Nat) (Option.none : Option Jvm.ClassFile.FieldType), Jvm.Cond.code ({ cls := "LocListDebug", name := "emit", desc := "(IIII)I" } : Jvm.MethodName) prog_1_method_53_code (6 : Nat) (Option.some Jvm.ClassFile.FieldType.int), Jvm.Cond.code ({ cls := "LocListDebug", name := "linkStatements", desc := "()V" } : Jvm.MethodName) prog_1_method_54_code (2 : Nat) (Option.none : Option Jvm.ClassFile.FieldType), Jvm.Cond.code ({ cls := "LocListDebug", name := "successorOf", desc := "(I)I" } : Jvm.MethodName) prog_1_method_55_code (5 : Nat) (Option.some Jvm.ClassFile.FieldType.int), Jvm.Cond.code ({ cls := "LocListDebug", name := "patchTerminator", desc := "(I)V" } : Jvm.MethodName) prog_1_method_56_code (5 : Nat) (Option.none : Option Jvm.ClassFile.FieldType), Jvm.Cond.code ({ cls := "LocListDebug", name := "computeMasks", desc := "()V" } : Jvm.MethodName) prog_1_method_58_code (3 : Nat) (Option.none : Option Jvm.ClassFile.FieldType), Jvm.Cond.code ({ cls := "LocListDebug", name := "bitOf", desc := "(I)I" } : Jvm.MethodName) prog_1_method_57_code (2 : Nat) (Option.some Jvm.ClassFile.FieldType.int), Jvm.Cond.code ({ cls := "LocListDebug", name := "computeDefs", desc := "()V" } : Jvm.MethodName) prog_1_method_59_code (4 : Nat) (Option.none : Option Jvm.ClassFile.FieldType), Jvm.Cond.code ({ cls := "LocListDebug", name := "buildLocationLists", desc := "()V" } : Jvm.MethodName) prog_1_method_60_code (3 : Nat) (Option.none : Option Jvm.ClassFile.FieldType), Jvm.Cond.code ({ cls := "LocListDebug", name := "locate", desc := "(II)V" } : Jvm.MethodName) prog_1_method_61_code (8 : Nat) (Option.none : Option Jvm.ClassFile.FieldType), Jvm.Cond.code ({ cls := "LocListDebug", name := "describeDefinition", desc := "(IIZ)V" } : Jvm.MethodName) prog_1_method_62_code (4 : Nat) (Option.none : Option Jvm.ClassFile.FieldType), Jvm.Cond.code ({ cls := "LocListDebug", name := "restartMachine", desc := "()V" } : Jvm.MethodName) prog_1_method_20_code (2 : Nat) (Option.none : Option Jvm.ClassFile.FieldType), Jvm.Cond.code ({ cls := "LocListDebug", name := "statementCount", desc := "()I" } : Jvm.MethodName) prog_1_method_7_code (1 : Nat) (Option.some Jvm.ClassFile.FieldType.int), Jvm.Cond.code ({ cls := "LocListDebug", name := "isAvailable", desc := "(I)Z" } : Jvm.MethodName) prog_1_method_14_code (3 : Nat) (Option.some Jvm.ClassFile.FieldType.boolean), Jvm.Cond.code ({ cls := "LocListDebug", name := "stopIndex", desc := "()I" } : Jvm.MethodName) prog_1_method_22_code (1 : Nat) (Option.some Jvm.ClassFile.FieldType.int), Jvm.Cond.code ({ cls := "LocListDebug", name := "value", desc := "(I)I" } : Jvm.MethodName) prog_1_method_15_code (3 : Nat) (Option.some Jvm.ClassFile.FieldType.int), Jvm.Cond.code ({ cls := "LocListDebug", name := "where", desc := "()I" } : Jvm.MethodName) prog_1_method_12_code (1 : Nat) (Option.some Jvm.ClassFile.FieldType.int), Jvm.Cond.code ({ cls := "LocListDebug", name := "step", desc := "()I" } : Jvm.MethodName) prog_1_method_9_code (1 : Nat) (Option.some Jvm.ClassFile.FieldType.int), Jvm.Cond.code ({ cls := "LocListDebug", name := "stepOnce", desc := "()V" } : Jvm.MethodName) prog_1_method_64_code (2 : Nat) (Option.none : Option Jvm.ClassFile.FieldType), Jvm.Cond.code ({ cls := "LocListDebug", name := "execStatement", desc := "(I)I" } : Jvm.MethodName) prog_1_method_65_code (5 : Nat) (Option.some Jvm.ClassFile.FieldType.int), Jvm.Cond.code ({ cls := "LocListDebug", name := "execInstruction", desc := "(I)V" } : Jvm.MethodName) prog_1_method_66_code (8 : Nat) (Option.none : Option Jvm.ClassFile.FieldType), Jvm.Cond.code ({ cls := "LocListDebug", name := "store", desc := "(II)V" } : Jvm.MethodName) prog_1_method_68_code (3 : Nat) (Option.none : Option Jvm.ClassFile.FieldType), Jvm.Cond.code ({ cls := "LocListDebug", name := "lastVar", desc := "()I" } : Jvm.MethodName) prog_1_method_16_code (1 : Nat) (Option.some Jvm.ClassFile.FieldType.int), Jvm.Cond.code ({ cls := "LocListDebug", name := "lastValue", desc := "()I" } : Jvm.MethodName) prog_1_method_17_code (1 : Nat) (Option.some Jvm.ClassFile.FieldType.int), Jvm.Cond.code ({ cls := "LocListDebugOwnLaw", name := "putHalf", desc := "(JII)J" } : Jvm.MethodName) method_4_code (4 : Nat) (Option.some Jvm.ClassFile.FieldType.long), Jvm.Cond.code ({ cls := "LocListDebug", name := "readLocation", desc := "(II)I" } : Jvm.MethodName) prog_1_method_63_code (3 : Nat) (Option.some Jvm.ClassFile.FieldType.int), Jvm.Cond.code ({ cls := "LocListDebugOwnLaw", name := "get", desc := "(JJJJI)I" } : Jvm.MethodName) method_5_code (11 : Nat) (Option.some Jvm.ClassFile.FieldType.int), Jvm.Cond.code ({ cls := "LocListDebugOwnLaw", name := "getHalf", desc := "(JI)I" } : Jvm.MethodName) method_3_code (3 : Nat) (Option.some Jvm.ClassFile.FieldType.int), Jvm.Cond.code ({ cls := "LocListDebug", name := "takeBinary", desc := "(I)Z" } : Jvm.MethodName) prog_1_method_33_code (3 : Nat) (Option.some Jvm.ClassFile.FieldType.boolean), Jvm.Cond.code ({ cls := "LocListDebug", name := "precedence", desc := "(I)I" } : Jvm.MethodName) prog_1_method_36_code (2 : Nat) (Option.some Jvm.ClassFile.FieldType.int), Jvm.Cond.code ({ cls := "LocListDebug", name := "pushOp", desc := "(I)Z" } : Jvm.MethodName) prog_1_method_37_code (2 : Nat) (Option.some Jvm.ClassFile.FieldType.boolean), Jvm.Cond.code ({ cls := "LocListDebug", name := "applyOp", desc := "(I)V" } : Jvm.MethodName) prog_1_method_40_code (2 : Nat) (Option.none : Option Jvm.ClassFile.FieldType), Jvm.Cond.code ({ cls := "LocListDebug", name := "applyBinary", desc := "(I)V" } : Jvm.MethodName) prog_1_method_42_code (6 : Nat) (Option.none : Option Jvm.ClassFile.FieldType), Jvm.Cond.code ({ cls := "LocListDebug", name := "simplify", desc := "(III)Z" } : Jvm.MethodName) prog_1_method_43_code (5 : Nat) (Option.some Jvm.ClassFile.FieldType.boolean), Jvm.Cond.code ({ cls := "LocListDebug", name := "rightIdentity", desc := "(II)I" } : Jvm.MethodName) prog_1_method_44_code (3 : Nat) (Option.some Jvm.ClassFile.FieldType.int), Jvm.Cond.code ({ cls := "LocListDebug", name := "materialize", desc := "(II)I" } : Jvm.MethodName) prog_1_method_49_code (5 : Nat) (Option.some Jvm.ClassFile.FieldType.int), Jvm.Cond.code ({ cls := "LocListDebug", name := "allocRegister", desc := "(II)I" } : Jvm.MethodName) prog_1_method_50_code (5 : Nat) (Option.some Jvm.ClassFile.FieldType.int), Jvm.Cond.code ({ cls := "LocListDebug", name := "finishCondition", desc := "()V" } : Jvm.MethodName) prog_1_method_52_code (3 : Nat) (Option.none : Option Jvm.ClassFile.FieldType), Jvm.Cond.code ({ cls := "LocListDebug", name := "openBlock", desc := "()Z" } : Jvm.MethodName) prog_1_method_28_code (1 : Nat) (Option.some Jvm.ClassFile.FieldType.boolean), Jvm.Cond.code ({ cls := "LocListDebug", name := "load", desc := "(I)I" } : Jvm.MethodName) prog_1_method_67_code (2 : Nat) (Option.some Jvm.ClassFile.FieldType.int), Jvm.Cond.code ({ cls := "LocListDebug", name := "arith", desc := "(III)I" } : Jvm.MethodName) prog_1_method_69_code (4 : Nat) (Option.some Jvm.ClassFile.FieldType.int), Jvm.Cond.code ({ cls := "LocListDebug", name := "run", desc := "(I)I" } : Jvm.MethodName) prog_1_method_10_code (4 : Nat) (Option.some Jvm.ClassFile.FieldType.int), Jvm.Cond.code ({ cls := "LocListDebug", name := "restart", desc := "()Z" } : Jvm.MethodName) prog_1_method_11_code (1 : Nat) (Option.some Jvm.ClassFile.FieldType.boolean), Jvm.Cond.code ({ cls := "LocListDebug", name := "breakAt", desc := "(I)Z" } : Jvm.MethodName) prog_1_method_21_code (2 : Nat) (Option.some Jvm.ClassFile.FieldType.boolean), Jvm.Cond.code ({ cls := "LocListDebugOwnLaw", name := "opOf", desc := "(I)I" } : Jvm.MethodName) method_6_code (1 : Nat) (Option.some Jvm.ClassFile.FieldType.int), Jvm.Cond.code ({ cls := "LocListDebug", name := "releaseEntry", desc := "(I)V" } : Jvm.MethodName) prog_1_method_48_code (3 : Nat) (Option.none : Option Jvm.ClassFile.FieldType), Jvm.Cond.code ({ cls := "LocListDebug", name := "foldToZero", desc := "(II)V" } : Jvm.MethodName) prog_1_method_46_code (3 : Nat) (Option.none : Option Jvm.ClassFile.FieldType)]
set_option maxRecDepth 65536 in
theorem codes_eq : words1.filter isCode = codes1 := rfl
theorem w_codes : ∀ c ∈ words1.filter isCode, c.before args0 about1 = true := by
  rw [codes_eq]
  intro c hc
  simp only [codes1, List.mem_cons, List.not_mem_nil, or_false] at hc
  rcases hc with rfl | rfl | rfl | rfl | rfl | rfl | rfl | rfl | rfl | rfl | rfl | rfl | rfl | rfl | rfl | rfl | rfl | rfl | rfl | rfl | rfl | rfl | rfl | rfl | rfl | rfl | rfl | rfl | rfl | rfl | rfl | rfl | rfl | rfl | rfl | rfl | rfl | rfl | rfl | rfl | rfl | rfl | rfl | rfl | rfl | rfl | rfl | rfl | rfl | rfl | rfl | rfl | rfl | rfl | rfl | rfl | rfl | rfl | rfl | rfl | rfl | rfl | rfl | rfl | rfl | rfl | rfl
  · exact w_c0
  · exact w_c1
  · exact w_c2
  · exact w_c3
  · exact w_c4
  · exact w_c5
  · exact w_c6
  · exact w_c7
  · exact w_c8
  · exact w_c9
  · exact w_c10
  · exact w_c11
  · exact w_c12
  · exact w_c13
  · exact w_c14
  · exact w_c15
  · exact w_c16
  · exact w_c17
  · exact w_c18
  · exact w_c19
  · exact w_c20
  · exact w_c21
  · exact w_c22
  · exact w_c23
  · exact w_c24
  · exact w_c25
  · exact w_c26
  · exact w_c27
  · exact w_c28
  · exact w_c29
  · exact w_c30
  · exact w_c31
  · exact w_c32
  · exact w_c33
  · exact w_c34
  · exact w_c35
  · exact w_c36
  · exact w_c37
  · exact w_c38
  · exact w_c39
  · exact w_c40
  · exact w_c41
  · exact w_c42
  · exact w_c43
  · exact w_c44
  · exact w_c45
  · exact w_c46
  · exact w_c47
  · exact w_c48
  · exact w_c49
  · exact w_c50
  · exact w_c51
  · exact w_c52
  · exact w_c53
  · exact w_c54
  · exact w_c55
  · exact w_c56
  · exact w_c57
  · exact w_c58
  · exact w_c59
  · exact w_c60
  · exact w_c61
  · exact w_c62
  · exact w_c63
  · exact w_c64
  · exact w_c65
  · exact w_c66
set_option maxRecDepth 65536 in
theorem w_t1 : (words1.take 24).all (fun c => isCode c || c.before args0 about1) = true := by decide +kernel
set_option maxRecDepth 65536 in
theorem w_t2 : ((words1.drop 24).take 24).all (fun c => isCode c || c.before args0 about1) = true := by decide +kernel
set_option maxRecDepth 65536 in
theorem w_t3 : (((words1.drop 24).drop 24).take 24).all (fun c => isCode c || c.before args0 about1) = true := by decide +kernel
set_option maxRecDepth 65536 in
theorem w_t4 : ((((words1.drop 24).drop 24).drop 24).take 24).all (fun c => isCode c || c.before args0 about1) = true := by decide +kernel
set_option maxRecDepth 65536 in
theorem w_t5 : (((((words1.drop 24).drop 24).drop 24).drop 24).take 24).all (fun c => isCode c || c.before args0 about1) = true := by decide +kernel
set_option maxRecDepth 65536 in
theorem w_t6 : ((((((words1.drop 24).drop 24).drop 24).drop 24).drop 24).take 24).all (fun c => isCode c || c.before args0 about1) = true := by decide +kernel
set_option maxRecDepth 65536 in
theorem w_t7 : (((((((words1.drop 24).drop 24).drop 24).drop 24).drop 24).drop 24).take 24).all (fun c => isCode c || c.before args0 about1) = true := by decide +kernel
set_option maxRecDepth 65536 in
theorem w_t8 : ((((((((words1.drop 24).drop 24).drop 24).drop 24).drop 24).drop 24).drop 24).take 24).all (fun c => isCode c || c.before args0 about1) = true := by decide +kernel
set_option maxRecDepth 65536 in
theorem w_t9 : (((((((((words1.drop 24).drop 24).drop 24).drop 24).drop 24).drop 24).drop 24).drop 24).take 24).all (fun c => isCode c || c.before args0 about1) = true := by decide +kernel
set_option maxRecDepth 65536 in
theorem w_t10 : ((((((((((words1.drop 24).drop 24).drop 24).drop 24).drop 24).drop 24).drop 24).drop 24).drop 24).take 24).all (fun c => isCode c || c.before args0 about1) = true := by decide +kernel
set_option maxRecDepth 65536 in
theorem w_t11 : (((((((((((words1.drop 24).drop 24).drop 24).drop 24).drop 24).drop 24).drop 24).drop 24).drop 24).drop 24).take 24).all (fun c => isCode c || c.before args0 about1) = true := by decide +kernel
set_option maxRecDepth 65536 in
theorem w_t12 : ((((((((((((words1.drop 24).drop 24).drop 24).drop 24).drop 24).drop 24).drop 24).drop 24).drop 24).drop 24).drop 24).take 24).all (fun c => isCode c || c.before args0 about1) = true := by decide +kernel
set_option maxRecDepth 65536 in
theorem w_t13 : (((((((((((((words1.drop 24).drop 24).drop 24).drop 24).drop 24).drop 24).drop 24).drop 24).drop 24).drop 24).drop 24).drop 24).take 24).all (fun c => isCode c || c.before args0 about1) = true := by decide +kernel
set_option maxRecDepth 65536 in
theorem w_t14 : ((((((((((((((words1.drop 24).drop 24).drop 24).drop 24).drop 24).drop 24).drop 24).drop 24).drop 24).drop 24).drop 24).drop 24).drop 24).take 24).all (fun c => isCode c || c.before args0 about1) = true := by decide +kernel
set_option maxRecDepth 65536 in
theorem w_t15 : (((((((((((((((words1.drop 24).drop 24).drop 24).drop 24).drop 24).drop 24).drop 24).drop 24).drop 24).drop 24).drop 24).drop 24).drop 24).drop 24).take 24).all (fun c => isCode c || c.before args0 about1) = true := by decide +kernel
set_option maxRecDepth 65536 in
theorem w_t16 : ((((((((((((((((words1.drop 24).drop 24).drop 24).drop 24).drop 24).drop 24).drop 24).drop 24).drop 24).drop 24).drop 24).drop 24).drop 24).drop 24).drop 24).take 24).all (fun c => isCode c || c.before args0 about1) = true := by decide +kernel
set_option maxRecDepth 65536 in
theorem w_t17 : (((((((((((((((((words1.drop 24).drop 24).drop 24).drop 24).drop 24).drop 24).drop 24).drop 24).drop 24).drop 24).drop 24).drop 24).drop 24).drop 24).drop 24).drop 24).take 24).all (fun c => isCode c || c.before args0 about1) = true := by decide +kernel
set_option maxRecDepth 65536 in
theorem w_t18 : ((((((((((((((((((words1.drop 24).drop 24).drop 24).drop 24).drop 24).drop 24).drop 24).drop 24).drop 24).drop 24).drop 24).drop 24).drop 24).drop 24).drop 24).drop 24).drop 24).take 24).all (fun c => isCode c || c.before args0 about1) = true := by decide +kernel
set_option maxRecDepth 65536 in
theorem w_t19 : ((((((((((((((((((words1.drop 24).drop 24).drop 24).drop 24).drop 24).drop 24).drop 24).drop 24).drop 24).drop 24).drop 24).drop 24).drop 24).drop 24).drop 24).drop 24).drop 24).drop 24).all (fun c => isCode c || c.before args0 about1) = true := by decide +kernel
theorem w_tables : (allAtoms (Jvm.Cond.code x code maxLocals ret :: tables_1)).before args0 about1 = true := by
  rw [allAtoms_all]
  show words1.all (fun c => c.before args0 about1) = true
  refine all_split ?_ w_codes
  rw [← List.take_append_drop 24 words1, List.all_append, w_t1, ← List.take_append_drop 24 (words1.drop 24), List.all_append, w_t2, ← List.take_append_drop 24 ((words1.drop 24).drop 24), List.all_append, w_t3, ← List.take_append_drop 24 (((words1.drop 24).drop 24).drop 24), List.all_append, w_t4, ← List.take_append_drop 24 ((((words1.drop 24).drop 24).drop 24).drop 24), List.all_append, w_t5, ← List.take_append_drop 24 (((((words1.drop 24).drop 24).drop 24).drop 24).drop 24), List.all_append, w_t6, ← List.take_append_drop 24 ((((((words1.drop 24).drop 24).drop 24).drop 24).drop 24).drop 24), List.all_append, w_t7, ← List.take_append_drop 24 (((((((words1.drop 24).drop 24).drop 24).drop 24).drop 24).drop 24).drop 24), List.all_append, w_t8, ← List.take_append_drop 24 ((((((((words1.drop 24).drop 24).drop 24).drop 24).drop 24).drop 24).drop 24).drop 24), List.all_append, w_t9, ← List.take_append_drop 24 (((((((((words1.drop 24).drop 24).drop 24).drop 24).drop 24).drop 24).drop 24).drop 24).drop 24), List.all_append, w_t10, ← List.take_append_drop 24 ((((((((((words1.drop 24).drop 24).drop 24).drop 24).drop 24).drop 24).drop 24).drop 24).drop 24).drop 24), List.all_append, w_t11, ← List.take_append_drop 24 (((((((((((words1.drop 24).drop 24).drop 24).drop 24).drop 24).drop 24).drop 24).drop 24).drop 24).drop 24).drop 24), List.all_append, w_t12, ← List.take_append_drop 24 ((((((((((((words1.drop 24).drop 24).drop 24).drop 24).drop 24).drop 24).drop 24).drop 24).drop 24).drop 24).drop 24).drop 24), List.all_append, w_t13, ← List.take_append_drop 24 (((((((((((((words1.drop 24).drop 24).drop 24).drop 24).drop 24).drop 24).drop 24).drop 24).drop 24).drop 24).drop 24).drop 24).drop 24), List.all_append, w_t14, ← List.take_append_drop 24 ((((((((((((((words1.drop 24).drop 24).drop 24).drop 24).drop 24).drop 24).drop 24).drop 24).drop 24).drop 24).drop 24).drop 24).drop 24).drop 24), List.all_append, w_t15, ← List.take_append_drop 24 (((((((((((((((words1.drop 24).drop 24).drop 24).drop 24).drop 24).drop 24).drop 24).drop 24).drop 24).drop 24).drop 24).drop 24).drop 24).drop 24).drop 24), List.all_append, w_t16, ← List.take_append_drop 24 ((((((((((((((((words1.drop 24).drop 24).drop 24).drop 24).drop 24).drop 24).drop 24).drop 24).drop 24).drop 24).drop 24).drop 24).drop 24).drop 24).drop 24).drop 24), List.all_append, w_t17, ← List.take_append_drop 24 (((((((((((((((((words1.drop 24).drop 24).drop 24).drop 24).drop 24).drop 24).drop 24).drop 24).drop 24).drop 24).drop 24).drop 24).drop 24).drop 24).drop 24).drop 24).drop 24), List.all_append, w_t18, w_t19]
  rfl
set_option maxRecDepth 65536 in
theorem w_rest : rest_1_c.before args0 about1 = true := by decide +kernel
set_option maxRecDepth 65536 in
theorem w_case : (Jvm.Cond.and given_1 narrow_1).before args0 about1 = true := by decide +kernel
theorem w_applies : (headSpec (Jvm.Cond.code x code maxLocals ret :: tables_1) room_1).applies x e0.platform about1 = true :=
  (Spec.applies_iff w_frames).mpr ⟨w_running, w_runnable, w_alone, w_named, w_hears, w_ripe, w_room, w_tables⟩
theorem atStart : AtStart classFile x code maxLocals ret World_1 tables_1 room_1 Calls_1 rest_1 Pre_1 launch0 p0 e0 about1 theMethod args0 below0 :=
  ⟨lists_1, trivial, launch0.admits_env _ _ _, launch0.least_env, fairChoices_fair.cas, fairChoices_fair.clock, w_frames, w_args, w_heap, w_applies, trivial, w_rest, w_case⟩
end start1
theorem witness_1 : WitnessClaimed_1 := ⟨start1.p0, start1.e0, start1.about1, start1.theMethod, start1.args0, start1.below0, start1.atStart⟩
end Jvm.Pilot.@@N@@
