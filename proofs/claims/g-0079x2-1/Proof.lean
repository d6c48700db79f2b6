import JvmDerived
import JvmDerived.Pilot.@@N@@Statement
import JvmDerived.Pilot.@@N@@Code
set_option linter.unusedVariables false
set_option linter.unusedSimpArgs false
namespace Jvm.Own
open Sem ClassFile Op Lib Jvm.Stand Jvm.Free Jvm.LawKit Jvm.RoadKit
abbrev AHeap:=List (FieldType × List Value)
abbrev Ws:=List Jvm.Cond
def rFld (ws:Ws) (own:String) (i:Nat):Option (String × String × String) :=
  ws.findSome? fun d => match d with
    | .fieldLink o j C n t => if o=own∧j=i then some (C,n,t) else none
    | _ => none
def rCls (ws:Ws) (own:String) (i:Nat):Option String :=
  ws.findSome? fun d => match d with
    | .classLink o j C => if o=own∧j=i then some C else none
    | _ => none
def rMth (ws:Ws) (own:String) (i:Nat):Option MethodName :=
  ws.findSome? fun d => match d with
    | .methodLink o j y => if o=own∧j=i then some y else none
    | _ => none
def rCon (ws:Ws) (own:String) (i:Nat):Option Int32 :=
  ws.findSome? fun d => match d with
    | .constant o j v => if o=own∧j=i then some v else none
    | _ => none
def rConL (ws:Ws) (own:String) (i:Nat):Option Int64 :=
  ws.findSome? fun d => match d with
    | .constantLong o j v => if o=own∧j=i then some v else none
    | _ => none
def rInst (ws:Ws) (C:String):Option Nat :=
  ws.findSome? fun d => match d with
    | .instantiable c n => if c=C then some n else none
    | _ => none
def rCode (ws:Ws) (y:MethodName):Option (ByteArray × Nat × Option FieldType) :=
  ws.findSome? fun d => match d with
    | .code z b m r => if z=y then some (b,m,r) else none
    | _ => none
def hasInit (ws:Ws) (C:String):Bool:=ws.any fun d => match d with | .initialized c => c == C | _ => false
def hasArr (ws:Ws) (t:FieldType):Bool:=ws.any fun d => match d with | .arrayClass c => decide (c=t) | _ => false
def hasStat (ws:Ws) (y:MethodName):Bool:=ws.any fun d => match d with | .static z => decide (z=y) | _ => false
def hasIM (ws:Ws) (y:MethodName):Bool:=ws.any fun d => match d with | .instanceMethod z => decide (z=y) | _ => false
def hasPriv (ws:Ws) (y:MethodName):Bool:=ws.any fun d => match d with | .privateMethod z => decide (z=y) | _ => false
def hasDecl (ws:Ws) (y:MethodName):Bool:=ws.any fun d => match d with | .declares z => decide (z=y) | _ => false
def hasSel (ws:Ws) (y:MethodName):Bool:=ws.any fun d => match d with | .selects c z z' => decide (c=y.cls∧z=y∧z'=y) | _ => false
def hasLays (ws:Ws) (C n t:String):Bool:=ws.any fun d => match d with | .lays c o n' t' => decide (c=C∧o=C∧n'=n∧t'=t) | _ => false
def hasLaysF (ws:Ws) (C n t:String):Bool:=ws.any fun d => match d with | .laysFinal c o n' t' => decide (c=C∧o=C∧n'=n∧t'=t) | _ => false
def layE (C:String):Jvm.Cond→Option (String × String)
  | .lays c o n t => if c=C∧o=C∧(parseFieldDescriptor t).isSome=true then some (n,t) else none
  | .laysFinal c o n t => if c=C∧o=C∧(parseFieldDescriptor t).isSome=true then some (n,t) else none
  | _ => none
def olay (ws:Ws) (C:String):List (String × String):=ws.filterMap (layE C)
def idx (x:String × String):List (String × String)→Option Nat
  | [] => none
  | y::r => if y=x then some 0 else (idx x r).map (·+1)
def fidx (ws:Ws) (C n t:String):Option Nat:=idx (n,t) (olay ws C)
def gfR (ws:Ws) (own:String) (i:Nat):Option (String × Nat) :=
  match rFld ws own i with
  | some (C,n,t) => (fidx ws C n t).map fun j => (C,j)
  | none => none
def pfR (ws:Ws) (own mn:String) (i:Nat):Option (String × Nat × FieldType) :=
  match rFld ws own i with
  | some (C,n,t) =>
    match fidx ws C n t,parseFieldDescriptor t with
    | some j,some ty => if (hasLays ws C n t || (hasLaysF ws C n t && own == C && mn == "<init>")) && (rInst ws C).isSome && (olay ws C).all (fun q => q.1 != n || q.2 == t) then some (C,j,ty) else none
    | _,_ => none
  | none => none
section Res
variable {ws:Ws}{own C n t:String}{i:Nat}{y:MethodName}
theorem rFld_mem (h:rFld ws own i=some (C,n,t)):Jvm.Cond.fieldLink own i C n t ∈ ws:=by
  obtain ⟨d,hd,e⟩:=List.exists_of_findSome?_eq_some h
  split at e
  · split at e
    · rename_i q; obtain ⟨rfl,rfl⟩:=q; cases e; exact hd
    · cases e
  · cases e
theorem rCls_mem (h:rCls ws own i=some C):Jvm.Cond.classLink own i C ∈ ws:=by
  obtain ⟨d,hd,e⟩:=List.exists_of_findSome?_eq_some h
  split at e
  · split at e
    · rename_i q; obtain ⟨rfl,rfl⟩:=q; cases e; exact hd
    · cases e
  · cases e
theorem rMth_mem (h:rMth ws own i=some y):Jvm.Cond.methodLink own i y ∈ ws:=by
  obtain ⟨d,hd,e⟩:=List.exists_of_findSome?_eq_some h
  split at e
  · split at e
    · rename_i q; obtain ⟨rfl,rfl⟩:=q; cases e; exact hd
    · cases e
  · cases e
theorem rCon_mem {v:Int32} (h:rCon ws own i=some v):Jvm.Cond.constant own i v ∈ ws:=by
  obtain ⟨d,hd,e⟩:=List.exists_of_findSome?_eq_some h
  split at e
  · split at e
    · rename_i q; obtain ⟨rfl,rfl⟩:=q; cases e; exact hd
    · cases e
  · cases e
theorem rConL_mem {v:Int64} (h:rConL ws own i=some v):Jvm.Cond.constantLong own i v ∈ ws:=by
  obtain ⟨d,hd,e⟩:=List.exists_of_findSome?_eq_some h
  split at e
  · split at e
    · rename_i q; obtain ⟨rfl,rfl⟩:=q; cases e; exact hd
    · cases e
  · cases e
theorem rInst_mem {k:Nat} (h:rInst ws C=some k):Jvm.Cond.instantiable C k ∈ ws:=by
  obtain ⟨d,hd,e⟩:=List.exists_of_findSome?_eq_some h
  split at e
  · split at e
    · rename_i q; subst q; cases e; exact hd
    · cases e
  · cases e
theorem rCode_mem {b:ByteArray}{k:Nat}{r:Option FieldType} (h:rCode ws y=some (b,k,r)):Jvm.Cond.code y b k r ∈ ws:=by
  obtain ⟨d,hd,e⟩:=List.exists_of_findSome?_eq_some h
  split at e
  · split at e
    · rename_i q; subst q; cases e; exact hd
    · cases e
  · cases e
theorem hasInit_mem (h:hasInit ws C=true):Jvm.Cond.initialized C ∈ ws:=by
  obtain ⟨d,hd,e⟩:=List.any_eq_true.mp h
  split at e
  · rw [beq_iff_eq] at e; subst e; exact hd
  · cases e
theorem hasArr_mem {ty:FieldType} (h:hasArr ws ty=true):Jvm.Cond.arrayClass ty ∈ ws:=by
  obtain ⟨d,hd,e⟩:=List.any_eq_true.mp h
  split at e
  · have e:=of_decide_eq_true e; subst e; exact hd
  · cases e
theorem hasStat_mem (h:hasStat ws y=true):Jvm.Cond.static y ∈ ws:=by
  obtain ⟨d,hd,e⟩:=List.any_eq_true.mp h
  split at e
  · have e:=of_decide_eq_true e; subst e; exact hd
  · cases e
theorem hasIM_mem (h:hasIM ws y=true):Jvm.Cond.instanceMethod y ∈ ws:=by
  obtain ⟨d,hd,e⟩:=List.any_eq_true.mp h
  split at e
  · have e:=of_decide_eq_true e; subst e; exact hd
  · cases e
theorem hasPriv_mem (h:hasPriv ws y=true):Jvm.Cond.privateMethod y ∈ ws:=by
  obtain ⟨d,hd,e⟩:=List.any_eq_true.mp h
  split at e
  · have e:=of_decide_eq_true e; subst e; exact hd
  · cases e
theorem hasDecl_mem (h:hasDecl ws y=true):Jvm.Cond.declares y ∈ ws:=by
  obtain ⟨d,hd,e⟩:=List.any_eq_true.mp h
  split at e
  · have e:=of_decide_eq_true e; subst e; exact hd
  · cases e
theorem hasSel_mem (h:hasSel ws y=true):Jvm.Cond.selects y.cls y y ∈ ws:=by
  obtain ⟨d,hd,e⟩:=List.any_eq_true.mp h
  split at e
  · obtain ⟨rfl,rfl,rfl⟩:=of_decide_eq_true e; exact hd
  · cases e
theorem hasLays_mem (h:hasLays ws C n t=true):Jvm.Cond.lays C C n t ∈ ws:=by
  obtain ⟨d,hd,e⟩:=List.any_eq_true.mp h
  split at e
  · obtain ⟨rfl,rfl,rfl,rfl⟩:=of_decide_eq_true e; exact hd
  · cases e
theorem hasLaysF_mem (h:hasLaysF ws C n t=true):Jvm.Cond.laysFinal C C n t ∈ ws:=by
  obtain ⟨d,hd,e⟩:=List.any_eq_true.mp h
  split at e
  · obtain ⟨rfl,rfl,rfl,rfl⟩:=of_decide_eq_true e; exact hd
  · cases e
theorem lay_mem (h:(n,t) ∈ olay ws C):(Jvm.Cond.lays C C n t ∈ ws ∨ Jvm.Cond.laysFinal C C n t ∈ ws)∧∃ ty,parseFieldDescriptor t=some ty:=by
  obtain ⟨d,hd,e⟩:=List.mem_filterMap.mp h
  unfold layE at e
  split at e
  · split at e
    · rename_i q; obtain ⟨rfl,rfl,q⟩:=q; cases e; exact ⟨Or.inl hd,Option.isSome_iff_exists.mp q⟩
    · cases e
  · split at e
    · rename_i q; obtain ⟨rfl,rfl,q⟩:=q; cases e; exact ⟨Or.inr hd,Option.isSome_iff_exists.mp q⟩
    · cases e
  · cases e
theorem idx_get {x:String × String}:∀ {l:List (String × String)}{j:Nat},idx x l=some j→l[j]?=some x
  | [],_,h => by cases h
  | y::r,j,h => by
    unfold idx at h
    split at h
    · rename_i q; cases h; simp [q]
    · obtain ⟨j',h',rfl⟩:=Option.map_eq_some_iff.mp h
      simpa using idx_get h'
theorem fidx_mem {j:Nat} (h:fidx ws C n t=some j):(n,t) ∈ olay ws C:=List.mem_of_getElem? (idx_get h)
theorem fidx_inj {n' t':String}{j:Nat} (h:fidx ws C n t=some j) (h':fidx ws C n' t'=some j):n=n'∧t=t':=by
  have:=(idx_get h).symm.trans (idx_get h')
  simpa using this
theorem gfR_some {j:Nat} (h:gfR ws own i=some (C,j)):∃ n t,rFld ws own i=some (C,n,t)∧fidx ws C n t=some j:=by
  unfold gfR at h
  split at h
  · rename_i C' n' t' q
    obtain ⟨j',h',e⟩:=Option.map_eq_some_iff.mp h
    cases e; exact ⟨_,_,q,h'⟩
  · cases h
theorem pfR_some {mn:String}{j:Nat}{ty:FieldType} (h:pfR ws own mn i=some (C,j,ty)):∃ n t,rFld ws own i=some (C,n,t)∧fidx ws C n t=some j∧parseFieldDescriptor t=some ty ∧
    (Jvm.Cond.lays C C n t ∈ ws ∨ (Jvm.Cond.laysFinal C C n t ∈ ws∧own=C∧mn = "<init>"))∧(∃ k,Jvm.Cond.instantiable C k ∈ ws)∧∀ n' t',(n',t') ∈ olay ws C→n' ≠ n ∨ t'=t:=by
  unfold pfR at h
  split at h
  · rename_i C' n' t' q
    split at h
    · rename_i j' ty' q1 q2
      split at h
      · rename_i g
        cases h
        simp only [Bool.and_eq_true,Bool.or_eq_true,beq_iff_eq,List.all_eq_true,bne_iff_ne,ne_eq] at g
        obtain ⟨⟨g1,g2⟩,g3⟩:=g
        obtain ⟨k,hk⟩:=Option.isSome_iff_exists.mp g2
        refine ⟨n',t',q,q1,q2,?_,⟨k,rInst_mem hk⟩,fun a b hab => g3 (a,b) hab⟩
        rcases g1 with g1 | ⟨⟨g1,g4⟩,g5⟩
        · exact Or.inl (hasLays_mem g1)
        · exact Or.inr ⟨hasLaysF_mem g1,g4,g5⟩
      · cases h
    · cases h
  · cases h
end Res
end Jvm.Own
namespace Jvm.Own
open Sem ClassFile Op Lib Jvm.Stand Jvm.Free Jvm.LawKit Jvm.RoadKit
abbrev XR:=Option (Nat × List Slot × List Value)
def chk {α:Type} (a b:Nat) (x:Option α):Option α:=if a=b then x else none
def isI:Value→Bool | .int _ => true | _ => false
def isL:Value→Bool | .long _ => true | _ => false
def stl (ls:List Slot) (i:Nat) (v:Value):Option (List Slot):=(storeLocals ls.toArray i v).map Array.toList
def ldV (p:Value→Bool) (nx i:Nat) (ls:List Slot) (st:List Value):XR :=
  match ls[i]? with
  | some (.val v) => if p v=true then some (nx,ls,v::st) else none
  | _ => none
def stV (p:Value→Bool) (nx i:Nat) (ls:List Slot):List Value→XR
  | v::r => if p v=true then (stl ls i v).map fun l' => (nx,l',r) else none
  | [] => none
def b2 (f:Int32→Int32→Int32) (nx:Nat) (ls:List Slot):List Value→XR
  | .int y::.int x::r => some (nx,ls,.int (f x y)::r)
  | _ => none
def d2 (f:Int32→Int32→Int32) (nx:Nat) (ls:List Slot):List Value→XR
  | .int y::.int x::r => if y=0 then none else some (nx,ls,.int (f x y)::r)
  | _ => none
def u1 (f:Int32→Int32) (nx:Nat) (ls:List Slot):List Value→XR
  | .int x::r => some (nx,ls,.int (f x)::r)
  | _ => none
def l2 (f:Int64→Int64→Int64) (nx:Nat) (ls:List Slot):List Value→XR
  | .long y::.long x::r => some (nx,ls,.long (f x y)::r)
  | _ => none
def lsh (f:Int64→Int32→Int64) (nx:Nat) (ls:List Slot):List Value→XR
  | .int y::.long x::r => some (nx,ls,.long (f x y)::r)
  | _ => none
def jmp (pc:Nat) (o:Int):Option Nat:=if 0≤(pc:Int)+o then some ((pc:Int)+o).toNat else none
def br (c:Bool) (pc:Nat) (o:Int) (ls:List Slot) (r:List Value):XR :=
  if c=true then (jmp pc o).map fun q => (q,ls,r) else some (pc+3,ls,r)
def sw (pc:Nat) (dflt low high:Int) (offs:Array Int) (ls:List Slot):List Value→XR
  | .int i::r => if i.toInt < low ∨ i.toInt > high then (jmp pc dflt).map fun q => (q,ls,r) else
      match offs[(i.toInt - low).toNat]? with
      | some o => (jmp pc o).map fun q => (q,ls,r)
      | none => none
  | _ => none
def xstep (ins:Instr) (len pc:Nat) (ls:List Slot) (st:List Value):XR :=
  match ins with
  | .aload_n i => chk len 1 (ldV Value.isRef (pc+1) i.val ls st)
  | .aload i => chk len 2 (ldV Value.isRef (pc+2) i ls st)
  | .iload_n i => chk len 1 (ldV isI (pc+1) i.val ls st)
  | .iload i => chk len 2 (ldV isI (pc+2) i ls st)
  | .lload_n i => chk len 1 (ldV isL (pc+1) i.val ls st)
  | .lload i => chk len 2 (ldV isL (pc+2) i ls st)
  | .astore_n i => chk len 1 (stV Value.isRef (pc+1) i.val ls st)
  | .astore i => chk len 2 (stV Value.isRef (pc+2) i ls st)
  | .istore_n i => chk len 1 (stV isI (pc+1) i.val ls st)
  | .istore i => chk len 2 (stV isI (pc+2) i ls st)
  | .lstore_n i => chk len 1 (stV isL (pc+1) i.val ls st)
  | .lstore i => chk len 2 (stV isL (pc+2) i ls st)
  | .iconst i => chk len 1 (some (pc+1,ls,.int (Int32.ofInt i)::st))
  | .bipush i => chk len 2 (some (pc+2,ls,.int (Int8.ofInt i).toInt32::st))
  | .sipush i => chk len 3 (some (pc+3,ls,.int (Int16.ofInt i).toInt32::st))
  | .lconst i => chk len 1 (some (pc+1,ls,.long (Int64.ofNat i)::st))
  | .iadd => chk len 1 (b2 (fun x y => x+y) (pc+1) ls st)
  | .isub => chk len 1 (b2 (fun x y => x - y) (pc+1) ls st)
  | .imul => chk len 1 (b2 (fun x y => x * y) (pc+1) ls st)
  | .iand => chk len 1 (b2 (fun x y => x &&& y) (pc+1) ls st)
  | .ior => chk len 1 (b2 (fun x y => x ||| y) (pc+1) ls st)
  | .ixor => chk len 1 (b2 (fun x y => x ^^^ y) (pc+1) ls st)
  | .ishl => chk len 1 (b2 (fun x y => x <<< (y &&& 31)) (pc+1) ls st)
  | .ishr => chk len 1 (b2 (fun x y => x >>> (y &&& 31)) (pc+1) ls st)
  | .iushr => chk len 1 (b2 XT.ushr (pc+1) ls st)
  | .idiv => chk len 1 (d2 (fun x y => x / y) (pc+1) ls st)
  | .irem => chk len 1 (d2 (fun x y => x % y) (pc+1) ls st)
  | .ineg => chk len 1 (u1 (fun x => -x) (pc+1) ls st)
  | .i2b => chk len 1 (u1 (fun x => x.toInt8.toInt32) (pc+1) ls st)
  | .i2c => chk len 1 (u1 (fun x => x.toUInt32.toUInt16.toUInt32.toInt32) (pc+1) ls st)
  | .ladd => chk len 1 (l2 (fun x y => x+y) (pc+1) ls st)
  | .lsub => chk len 1 (l2 (fun x y => x - y) (pc+1) ls st)
  | .lmul => chk len 1 (l2 (fun x y => x * y) (pc+1) ls st)
  | .land => chk len 1 (l2 (fun x y => x &&& y) (pc+1) ls st)
  | .lor => chk len 1 (l2 (fun x y => x ||| y) (pc+1) ls st)
  | .lxor => chk len 1 (l2 (fun x y => x ^^^ y) (pc+1) ls st)
  | .lshl => chk len 1 (lsh (fun x y => x <<< (y.toInt64 &&& 63)) (pc+1) ls st)
  | .lshr => chk len 1 (lsh (fun x y => x >>> (y.toInt64 &&& 63)) (pc+1) ls st)
  | .lushr => chk len 1 (lsh XT.ushrL (pc+1) ls st)
  | .lneg => chk len 1 (match st with | .long x::r => some (pc+1,ls,.long (-x)::r) | _ => none)
  | .i2l => chk len 1 (match st with | .int x::r => some (pc+1,ls,.long x.toInt64::r) | _ => none)
  | .l2i => chk len 1 (match st with | .long x::r => some (pc+1,ls,.int x.toInt32::r) | _ => none)
  | .lcmp => chk len 1 (match st with | .long y::.long x::r => some (pc+1,ls,.int (XT.cmpL x y)::r) | _ => none)
  | .iinc i cst => chk len 3 (match ls[i]? with | some (.val (.int x)) => (stl ls i (.int (x+Int32.ofInt cst))).map fun l' => (pc+3,l',st) | _ => none)
  | .dup => chk len 1 (match st with | x::r => if x.category=1 then some (pc+1,ls,x::x::r) else none | _ => none)
  | .dup2 => chk len 1 (match st with
      | .long x::r => some (pc+1,ls,.long x::.long x::r)
      | x::y::r => if x.category=1∧y.category=1 then some (pc+1,ls,x::y::x::y::r) else none
      | _ => none)
  | .pop => chk len 1 (match st with | x::r => if x.category=1 then some (pc+1,ls,r) else none | _ => none)
  | .goto o => chk len 3 ((jmp pc o).map fun q => (q,ls,st))
  | .ifCond cd o => chk len 3 (match st with | .int x::r => br (ifCond.holds cd x) pc o ls r | _ => none)
  | .if_icmp cd o => chk len 3 (match st with | .int y::.int x::r => br (if_icmp.holds cd x y) pc o ls r | _ => none)
  | .tableswitch dflt low high offs => sw pc dflt low high offs ls st
  | _ => none
abbrev HR:=Option (Nat × List Value × AHeap)
def putv:FieldType→Value→Option Value
  | .int,.int x => some (.int x)
  | .boolean,.int x => some (.int (nar .boolean x))
  | .byte,.int x => some (.int (nar .byte x))
  | .char,.int x => some (.int (nar .char x))
  | .short,.int x => some (.int (nar .short x))
  | .long,.long x => some (.long x)
  | .array _,.ref a => some (.ref a)
  | _,_ => none
def dflt (q:String × String):Value:=match parseFieldDescriptor q.2 with | some ty => defaultValue ty | none => .null
def hGet (ws:Ws) (own:String) (i pc:Nat) (H:AHeap):List Value→HR
  | .ref a::r =>
    match gfR ws own i,H[a]? with
    | some (C,j),some (.object C',vs) => if C=C' then (vs[j]?).map fun v => (pc+3,v::r,H) else none
    | _,_ => none
  | _ => none
def hPut (ws:Ws) (k:Nat) (own mn:String) (i pc:Nat) (H:AHeap):List Value→HR
  | v::.ref a::r =>
    match pfR ws own mn i,H[a]? with
    | some (C,j,ty),some (.object C',vs) => if C=C'∧k≤a∧j < vs.length then (putv ty v).map fun v' => (pc+3,r,H.set a (.object C',vs.set j v')) else none
    | _,_ => none
  | _ => none
def hNew (ws:Ws) (own:String) (i pc:Nat) (H:AHeap) (st:List Value):HR :=
  match rCls ws own i with
  | some C => if (rInst ws C).isSome=true∧hasInit ws C=true then some (pc+3,.ref H.length::st,H ++ [(.object C,(olay ws C).map dflt)]) else none
  | none => none
def hNewA (ws:Ws) (aty:ArrayType) (pc:Nat) (H:AHeap):List Value→HR
  | .int n::r => if hasArr ws (newarray.typeOf aty)=true∧¬ n < 0∧n.toNatClampNeg * 8≤536870912 then
      some (pc+2,.ref H.length::r,H ++ [(.array (newarray.typeOf aty),List.replicate n.toNatClampNeg (defaultValue (newarray.typeOf aty)))]) else none
  | _ => none
def hLd (ok:FieldType→Bool) (pc:Nat) (H:AHeap):List Value→HR
  | .int j::.ref a::r =>
    match H[a]? with
    | some (.array ty,vs) => if ok ty=true∧¬ j < 0 then (vs[j.toNatClampNeg]?).map fun v => (pc+1,v::r,H) else none
    | _ => none
  | _ => none
def hSt (ok:FieldType→Bool) (k pc:Nat) (H:AHeap):List Value→HR
  | v::.int j::.ref a::r =>
    match H[a]? with
    | some (.array ty,vs) => if ok ty=true∧k≤a∧¬ j < 0∧j.toNatClampNeg < vs.length then (putv ty v).map fun v' => (pc+1,r,H.set a (.array ty,vs.set j.toNatClampNeg v')) else none
    | _ => none
  | _ => none
def hLen (pc:Nat) (H:AHeap):List Value→HR
  | .ref a::r =>
    match H[a]? with
    | some (.array _,vs) => some (pc+1,.int vs.length.toInt32::r,H)
    | _ => none
  | _ => none
def okT (t u:FieldType):Bool:=decide (u=t)
def okB (u:FieldType):Bool:=decide (u=.byte) || decide (u=.boolean)
def hstep (ws:Ws) (k:Nat) (y:MethodName) (ins:Instr) (len pc:Nat) (st:List Value) (H:AHeap):HR :=
  match ins with
  | .getfield i => chk len 3 (hGet ws y.cls i pc H st)
  | .putfield i => chk len 3 (hPut ws k y.cls y.name i pc H st)
  | .new i => chk len 3 (hNew ws y.cls i pc H st)
  | .newarray aty => chk len 2 (hNewA ws aty pc H st)
  | .iaload => chk len 1 (hLd (okT .int) pc H st)
  | .caload => chk len 1 (hLd (okT .char) pc H st)
  | .laload => chk len 1 (hLd (okT .long) pc H st)
  | .baload => chk len 1 (hLd okB pc H st)
  | .iastore => chk len 1 (hSt (okT .int) k pc H st)
  | .castore => chk len 1 (hSt (okT .char) k pc H st)
  | .lastore => chk len 1 (hSt (okT .long) k pc H st)
  | .bastore => chk len 1 (hSt okB k pc H st)
  | .arraylength => chk len 1 (hLen pc H st)
  | .ldc i => chk len 2 ((rCon ws y.cls i).map fun v => (pc+2,.int v::st,H))
  | .ldc_w i => chk len 3 ((rCon ws y.cls i).map fun v => (pc+3,.int v::st,H))
  | .ldc2_w i => chk len 3 ((rConL ws y.cls i).map fun v => (pc+3,.long v::st,H))
  | _ => none
def ent:List Value→List Slot
  | [] => []
  | v::r => if v.category=2 then .val v::.second::ent r else .val v::ent r
def entry (as:List Value) (mx:Nat):List Slot:=ent as ++ List.replicate (mx - (ent as).length) .unset
def wsum (st:List Value):Nat:=(st.map fun v => v.category).sum
abbrev Dn:=List (MethodName × Nat × Nat)
def dnOf (dn:Dn) (y:MethodName):Option (Nat × Nat):=dn.findSome? fun q => if q.1=y then some q.2 else none
def cR (ws:Ws) (dn:Dn) (y:MethodName) (i:Nat):Option (MethodName × ByteArray × Nat × Option FieldType × Nat × Nat) :=
  match rMth ws y.cls i with
  | none => none
  | some y' =>
    match rCode ws y',dnOf dn y',dnOf dn y,parseMethodDescriptor y'.desc with
    | some (b,mx,r),some (f',l'),some (f,l),some sig =>
      if hasInit ws y'.cls=true∧Jvm.plainName y'.cls=true∧y'.cls ≠ "java/lang/invoke/MethodHandle" ∧ y'.cls ≠ "java/lang/invoke/VarHandle" ∧ f'+1≤f∧mx+11+l'≤l then
        some (y',b,mx,r,sig.parameters.length,l - (mx+11+l')) else none
    | _,_,_,_ => none
def sR (ws:Ws) (dn:Dn) (y:MethodName) (i:Nat):Option (MethodName × ByteArray × Nat × Option FieldType × Nat × Nat) :=
  match cR ws dn y i with
  | some q => if hasStat ws q.1=true then some q else none
  | none => none
def nR (ws:Ws) (dn:Dn) (y:MethodName) (i:Nat):Option (MethodName × ByteArray × Nat × Option FieldType × Nat × Nat) :=
  match cR ws dn y i with
  | some q => if q.1.name = "<init>" ∧ hasIM ws q.1=true∧q.2.2.2.1=none then some q else none
  | none => none
def vR (ws:Ws) (dn:Dn) (y:MethodName) (i:Nat):Option (Bool × MethodName × ByteArray × Nat × Option FieldType × Nat × Nat) :=
  match cR ws dn y i with
  | some q => if hasIM ws q.1=true then
      (if hasPriv ws q.1=true∧(rInst ws q.1.cls).isSome=true then some (true,q) else if hasDecl ws q.1=true∧hasSel ws q.1=true then some (false,q) else none) else none
  | none => none
def oR (ws:Ws) (dn:Dn) (y:MethodName) (i:Nat):Option Nat :=
  match rMth ws y.cls i,rCode ws Lib.objectInit,dnOf dn y with
  | some y',some (b,mx,r),some (f,l) =>
    if y'=Lib.objectInit∧hasIM ws Lib.objectInit=true∧b.data=#[0xb1]∧mx=1∧r=none∧1≤f∧12≤l then some (l - 12) else none
  | _,_,_ => none
abbrev Call:=MethodName × ByteArray × Option FieldType × List Slot × List Value
def cstep (ws:Ws) (dn:Dn) (y:MethodName) (ret:Option FieldType) (ins:Instr) (len pc:Nat) (ls:List Slot) (st:List Value) (H:AHeap):Option (Option Value ⊕ (Nat × List Slot × List Value × AHeap) ⊕ Call) :=
  match ins with
  | .ireturn => chk len 1 (match st,ret with
      | .int z::_,some t => if t=.int ∨ t=.boolean ∨ t=.byte ∨ t=.char ∨ t=.short then some (.inl (some (.int (nar t z)))) else none
      | _,_ => none)
  | .lreturn => chk len 1 (match st,ret with
      | [.long z],some .long => some (.inl (some (.long z)))
      | _,_ => none)
  | .return_ => chk len 1 (match st,ret with
      | [],none => some (.inl none)
      | _,_ => none)
  | .invokestatic i => chk len 3 (match sR ws dn y i with
      | some (y',b,mx,r,na,sl) =>
        if na≤st.length∧wsum (st.drop na)≤sl∧(ent (st.take na).reverse).length≤mx then
          some (.inr (.inr (y',b,r,entry (st.take na).reverse mx,st.drop na)))
        else none
      | none => none)
  | .invokespecial i => chk len 3 (match oR ws dn y i with
      | some sl => (match st with
          | .ref _::r => if wsum r≤sl then some (.inr (.inl (pc+3,ls,r,H))) else none
          | _ => none)
      | none => match nR ws dn y i with
        | some (y',b,mx,r,na,sl) =>
          (match st.drop na with
          | .ref a::rest =>
            if wsum rest≤sl∧(ent (.ref a::(st.take na).reverse)).length≤mx∧na≤st.length then
              some (.inr (.inr (y',b,r,entry (.ref a::(st.take na).reverse) mx,rest)))
            else none
          | _ => none)
        | none => none)
  | .invokevirtual i => chk len 3 (match vR ws dn y i with
      | some (pv,y',b,mx,r,na,sl) =>
        (match st.drop na with
        | .ref a::rest =>
          (match H[a]? with
          | some (.object C,_) =>
            if (pv=true ∨ C=y'.cls)∧wsum rest≤sl∧(ent (.ref a::(st.take na).reverse)).length≤mx∧na≤st.length then
              some (.inr (.inr (y',b,r,entry (.ref a::(st.take na).reverse) mx,rest)))
            else none
          | _ => none)
        | _ => none)
      | none => none)
  | _ => none
def act (ws:Ws) (dn:Dn) (k:Nat) (y:MethodName) (bytes:ByteArray) (ret:Option FieldType) (pc:Nat) (ls:List Slot) (st:List Value) (H:AHeap):Option (Option Value ⊕ (Nat × List Slot × List Value × AHeap) ⊕ Call) :=
  match decode bytes pc with
  | .error _ => none
  | .ok (ins,len) =>
    match xstep ins len pc ls st with
    | some q => some (.inr (.inl (q.1,q.2.1,q.2.2,H)))
    | none => match hstep ws k y ins len pc st H with
      | some q => some (.inr (.inl (q.1,ls,q.2.1,q.2.2)))
      | none => cstep ws dn y ret ins len pc ls st H
def run (ws:Ws) (dn:Dn) (k:Nat):Nat→MethodName→ByteArray→Option FieldType→Nat→List Slot→List Value→AHeap→Option (Option Value × AHeap)
  | 0,_,_,_,_,_,_,_ => none
  | n+1,y,bytes,ret,pc,ls,st,H =>
    match act ws dn k y bytes ret pc ls st H with
    | none => none
    | some (.inl v) => some (v,H)
    | some (.inr (.inl (pc',ls',st',H'))) => run ws dn k n y bytes ret pc' ls' st' H'
    | some (.inr (.inr (y',b,r,en,rest))) =>
      match run ws dn k n y' b r 0 en [] H with
      | some (v,H1) => run ws dn k n y bytes ret (pc+3) ls (v.toList ++ rest) H1
      | none => none
end Jvm.Own
namespace Jvm.Own
open Sem ClassFile Op Lib Jvm.Stand Jvm.Free Jvm.LawKit Jvm.RoadKit
def ren (f:Nat→Nat):Value→Value
  | .ref a => .ref (f a)
  | v => v
def renS (f:Nat→Nat):Slot→Slot
  | .val v => .val (ren f v)
  | s => s
abbrev fr (f:Nat→Nat) (m:MethodId) (pc:Nat) (ls:List Slot) (st:List Value):JFrame:=mkF m pc (ls.map (renS f)).toArray (st.map (ren f))
theorem ren_cat (f:Nat→Nat) (v:Value):(ren f v).category=v.category:=by cases v <;> rfl
theorem ren_isRef (f:Nat→Nat) (v:Value):(ren f v).isRef=v.isRef:=by cases v <;> rfl
theorem isI_int {v:Value} (h:isI v=true):∃ x,v=.int x:=by cases v <;> first | exact ⟨_,rfl⟩ | cases h
theorem isL_long {v:Value} (h:isL v=true):∃ x,v=.long x:=by cases v <;> first | exact ⟨_,rfl⟩ | cases h
theorem chk_some {α:Type}{a b:Nat}{x:Option α}{r:α} (h:chk a b x=some r):a=b∧x=some r:=by
  unfold chk at h
  split at h
  · exact ⟨by assumption,h⟩
  · cases h
theorem loc_get {f:Nat→Nat}{ls:List Slot}{i:Nat}{s:Slot} (h:ls[i]?=some s):((ls.map (renS f)).toArray)[i]?=some (renS f s):=by
  rw [List.getElem?_toArray,List.getElem?_map,h]; rfl
theorem setAt_ren (f:Nat→Nat) (l:Array Slot) (i:Nat) (x:Slot):setAt (l.map (renS f)) i (renS f x)=(setAt l i x).map fun a => a.map (renS f):=by
  unfold setAt
  rw [Array.size_map]
  split
  · rw [Option.map_some,Array.map_setIfInBounds]
  · rfl
theorem storeSelf_ren (f:Nat→Nat) (l:Array Slot) (i:Nat) (v:Value):storeSelf (l.map (renS f)) i (ren f v)=(storeSelf l i v).map fun a => a.map (renS f):=by
  have h0:setAt (l.map (renS f)) i (.val (ren f v))=_:=setAt_ren f l i (.val v)
  simp only [storeSelf,h0,ren_cat]
  cases setAt l i (.val v) with
  | none => rfl
  | some l1 =>
    simp only [Option.map_some,Option.bind_eq_bind,Option.bind_some,bind_pure_comp]
    split
    · rw [Array.getElem?_map]
      cases l1[i+1]? with
      | none => rfl
      | some s =>
        simp only [Option.map_some,Option.bind_some]
        cases s with
        | unset => exact setAt_ren f l1 (i+1) .second
        | second => exact setAt_ren f l1 (i+1) .second
        | val w =>
          simp only [renS,ren_cat]
          split
          · have h1:setAt (l1.map (renS f)) (i+2) .unset=_:=setAt_ren f l1 (i+2) .unset
            rw [h1]
            cases setAt l1 (i+2) .unset with
            | none => rfl
            | some l2 => exact setAt_ren f l2 (i+1) .second
          · exact setAt_ren f l1 (i+1) .second
    · rfl
theorem storeLocals_ren (f:Nat→Nat) (l:Array Slot) (i:Nat) (v:Value):storeLocals (l.map (renS f)) i (ren f v)=(storeLocals l i v).map fun a => a.map (renS f):=by
  simp only [storeLocals,Array.getElem?_map]
  cases l[i]? with
  | none => rfl
  | some s =>
    simp only [Option.map_some,Option.bind_eq_bind,Option.bind_some]
    cases s with
    | unset => exact storeSelf_ren f l i v
    | second =>
      have h1:setAt (l.map (renS f)) (i - 1) .unset=_:=setAt_ren f l (i - 1) .unset
      simp only [renS,h1]
      cases setAt l (i - 1) .unset with
      | none => rfl
      | some l2 => exact storeSelf_ren f l2 i v
    | val w =>
      simp only [renS,ren_cat]
      split
      · have h1:setAt (l.map (renS f)) (i+1) .unset=_:=setAt_ren f l (i+1) .unset
        rw [h1]
        cases setAt l (i+1) .unset with
        | none => rfl
        | some l2 => exact storeSelf_ren f l2 i v
      · exact storeSelf_ren f l i v
theorem stl_ren {f:Nat→Nat}{ls l':List Slot}{i:Nat}{v:Value} (h:stl ls i v=some l'):storeLocals (ls.map (renS f)).toArray i (ren f v)=some (l'.map (renS f)).toArray:=by
  unfold stl at h
  obtain ⟨a,ha,rfl⟩:=Option.map_eq_some_iff.mp h
  have:=storeLocals_ren f ls.toArray i v
  rw [ha] at this
  rw [← List.map_toArray,this]
  simp [← Array.toList_inj]
theorem setAt_size {l l':Array Slot}{i:Nat}{x:Slot} (h:setAt l i x=some l'):l'.size=l.size:=by
  unfold setAt at h
  split at h
  · cases h; simp
  · cases h
theorem storeSelf_size {l l':Array Slot}{i:Nat}{v:Value} (h:storeSelf l i v=some l'):l'.size=l.size:=by
  simp only [storeSelf,Option.bind_eq_bind,Option.bind_eq_some_iff] at h
  obtain ⟨l1,h1,h⟩:=h
  have e1:=setAt_size h1
  split at h
  · obtain ⟨s,-,h⟩:=Option.bind_eq_some_iff.mp h
    split at h
    · split at h
      · obtain ⟨l2,h2,h⟩:=Option.bind_eq_some_iff.mp h
        rw [setAt_size h,setAt_size h2,e1]
      · rw [setAt_size h,e1]
    · rw [setAt_size h,e1]
  · cases h; exact e1
theorem storeLocals_size {l l':Array Slot}{i:Nat}{v:Value} (h:storeLocals l i v=some l'):l'.size=l.size:=by
  simp only [storeLocals,Option.bind_eq_bind,Option.bind_eq_some_iff] at h
  obtain ⟨s,-,h⟩:=h
  split at h
  · obtain ⟨l2,h2,h⟩:=Option.bind_eq_some_iff.mp h
    rw [storeSelf_size h,setAt_size h2]
  · split at h
    · obtain ⟨l2,h2,h⟩:=Option.bind_eq_some_iff.mp h
      rw [storeSelf_size h,setAt_size h2]
    · exact storeSelf_size h
  · exact storeSelf_size h
theorem stl_size {ls l':List Slot}{i:Nat}{v:Value} (h:stl ls i v=some l'):l'.length=ls.length:=by
  unfold stl at h
  obtain ⟨a,ha,rfl⟩:=Option.map_eq_some_iff.mp h
  have:=storeLocals_size ha
  simpa using this
theorem ldV_some {p:Value→Bool}{nx i:Nat}{ls:List Slot}{st:List Value}{q:Nat × List Slot × List Value} (h:ldV p nx i ls st=some q):∃ v,ls[i]?=some (.val v)∧p v=true∧q=(nx,ls,v::st):=by
  unfold ldV at h
  split at h
  · rename_i v hv
    split at h
    · cases h; exact ⟨v,hv,by assumption,rfl⟩
    · cases h
  · cases h
theorem stV_some {p:Value→Bool}{nx i:Nat}{ls:List Slot}{st:List Value}{q:Nat × List Slot × List Value} (h:stV p nx i ls st=some q):∃ v r l',st=v::r∧p v=true∧stl ls i v=some l'∧q=(nx,l',r):=by
  unfold stV at h
  split at h
  · split at h
    · obtain ⟨l',h1,h2⟩:=Option.map_eq_some_iff.mp h
      exact ⟨_,_,l',rfl,by assumption,h1,h2.symm⟩
    · cases h
  · cases h
theorem b2_some {f:Int32→Int32→Int32}{nx:Nat}{ls:List Slot}{st:List Value}{q:Nat × List Slot × List Value} (h:b2 f nx ls st=some q):∃ x y r,st=.int y::.int x::r∧q=(nx,ls,.int (f x y)::r):=by
  unfold b2 at h
  split at h
  · cases h; exact ⟨_,_,_,rfl,rfl⟩
  · cases h
theorem d2_some {f:Int32→Int32→Int32}{nx:Nat}{ls:List Slot}{st:List Value}{q:Nat × List Slot × List Value} (h:d2 f nx ls st=some q):∃ x y r,st=.int y::.int x::r∧y ≠ 0∧q=(nx,ls,.int (f x y)::r):=by
  unfold d2 at h
  split at h
  · split at h
    · cases h
    · cases h; exact ⟨_,_,_,rfl,by assumption,rfl⟩
  · cases h
theorem u1_some {f:Int32→Int32}{nx:Nat}{ls:List Slot}{st:List Value}{q:Nat × List Slot × List Value} (h:u1 f nx ls st=some q):∃ x r,st=.int x::r∧q=(nx,ls,.int (f x)::r):=by
  unfold u1 at h
  split at h
  · cases h; exact ⟨_,_,rfl,rfl⟩
  · cases h
theorem l2_some {f:Int64→Int64→Int64}{nx:Nat}{ls:List Slot}{st:List Value}{q:Nat × List Slot × List Value} (h:l2 f nx ls st=some q):∃ x y r,st=.long y::.long x::r∧q=(nx,ls,.long (f x y)::r):=by
  unfold l2 at h
  split at h
  · cases h; exact ⟨_,_,_,rfl,rfl⟩
  · cases h
theorem lsh_some {f:Int64→Int32→Int64}{nx:Nat}{ls:List Slot}{st:List Value}{q:Nat × List Slot × List Value} (h:lsh f nx ls st=some q):∃ x y r,st=.int y::.long x::r∧q=(nx,ls,.long (f x y)::r):=by
  unfold lsh at h
  split at h
  · cases h; exact ⟨_,_,_,rfl,rfl⟩
  · cases h
theorem jmp_some {pc q:Nat}{o:Int} (h:jmp pc o=some q):0≤(pc:Int)+o∧((pc:Int)+o).toNat=q:=by
  unfold jmp at h
  split at h
  · cases h; exact ⟨by assumption,rfl⟩
  · cases h
theorem br_some {c:Bool}{pc:Nat}{o:Int}{ls:List Slot}{r:List Value}{q:Nat × List Slot × List Value} (h:br c pc o ls r=some q):(c=true∧∃ t,0≤(pc:Int)+o∧((pc:Int)+o).toNat=t∧q=(t,ls,r)) ∨ (c=false∧q=(pc+3,ls,r)):=by
  unfold br at h
  split at h
  · obtain ⟨t,h1,h2⟩:=Option.map_eq_some_iff.mp h
    obtain ⟨h3,h4⟩:=jmp_some h1
    exact Or.inl ⟨by assumption,t,h3,h4,h2.symm⟩
  · rename_i hc; cases h; exact Or.inr ⟨by simpa using hc,rfl⟩
section X
variable {tb:Tables} [Ours tb] {e:Env}{below:List Frame}{T target:State}{m:MethodId}{c:Code}
set_option maxHeartbeats 4000000 in
theorem xstep_sound (h:At T m c below) (hx:tb.exec=Jvm.exec) (f:Nat→Nat) {ins:Instr}{len pc:Nat}{ls:List Slot}{st:List Value}{q:Nat × List Slot × List Value}
    (hd:decode c.code pc=.ok (ins,len)) (hs:xstep ins len pc ls st=some q) (hr:Steps tb e below (T.setTop (fr f m q.1 q.2.1 q.2.2)) target):Steps tb e below (T.setTop (fr f m pc ls st)) target:=by
  unfold xstep at hs
  split at hs
  · obtain ⟨rfl,hs⟩:=chk_some hs; obtain ⟨v,h1,h2,rfl⟩:=ldV_some hs
    exact XS.aloadN h hx rfl hd (loc_get h1) (by rw [ren_isRef]; exact h2) hr
  · obtain ⟨rfl,hs⟩:=chk_some hs; obtain ⟨v,h1,h2,rfl⟩:=ldV_some hs
    exact XS.aload h hx rfl hd (loc_get h1) (by rw [ren_isRef]; exact h2) hr
  · obtain ⟨rfl,hs⟩:=chk_some hs; obtain ⟨v,h1,h2,rfl⟩:=ldV_some hs; obtain ⟨x,rfl⟩:=isI_int h2
    exact XS.iloadN h hx rfl hd (loc_get (f:=f) h1) hr
  · obtain ⟨rfl,hs⟩:=chk_some hs; obtain ⟨v,h1,h2,rfl⟩:=ldV_some hs; obtain ⟨x,rfl⟩:=isI_int h2
    exact XS.iload h hx rfl hd (loc_get (f:=f) h1) hr
  · obtain ⟨rfl,hs⟩:=chk_some hs; obtain ⟨v,h1,h2,rfl⟩:=ldV_some hs; obtain ⟨x,rfl⟩:=isL_long h2
    exact XT.lloadN h hx rfl hd (loc_get (f:=f) h1) hr
  · obtain ⟨rfl,hs⟩:=chk_some hs; obtain ⟨v,h1,h2,rfl⟩:=ldV_some hs; obtain ⟨x,rfl⟩:=isL_long h2
    exact XT.lload h hx rfl hd (loc_get (f:=f) h1) hr
  · obtain ⟨rfl,hs⟩:=chk_some hs; obtain ⟨v,r,l',rfl,h2,h3,rfl⟩:=stV_some hs
    exact XS.astoreN h hx rfl hd rfl (by rw [ren_isRef]; exact h2) (stl_ren h3) hr
  · obtain ⟨rfl,hs⟩:=chk_some hs; obtain ⟨v,r,l',rfl,h2,h3,rfl⟩:=stV_some hs
    exact XS.astore h hx rfl hd rfl (by rw [ren_isRef]; exact h2) (stl_ren h3) hr
  · obtain ⟨rfl,hs⟩:=chk_some hs; obtain ⟨v,r,l',rfl,h2,h3,rfl⟩:=stV_some hs; obtain ⟨x,rfl⟩:=isI_int h2
    exact XS.istoreN h hx rfl hd rfl (stl_ren (f:=f) h3) hr
  · obtain ⟨rfl,hs⟩:=chk_some hs; obtain ⟨v,r,l',rfl,h2,h3,rfl⟩:=stV_some hs; obtain ⟨x,rfl⟩:=isI_int h2
    exact XS.istore h hx rfl hd rfl (stl_ren (f:=f) h3) hr
  · obtain ⟨rfl,hs⟩:=chk_some hs; obtain ⟨v,r,l',rfl,h2,h3,rfl⟩:=stV_some hs; obtain ⟨x,rfl⟩:=isL_long h2
    exact XT.lstoreN h hx rfl hd rfl (stl_ren (f:=f) h3) hr
  · obtain ⟨rfl,hs⟩:=chk_some hs; obtain ⟨v,r,l',rfl,h2,h3,rfl⟩:=stV_some hs; obtain ⟨x,rfl⟩:=isL_long h2
    exact XT.lstore h hx rfl hd rfl (stl_ren (f:=f) h3) hr
  · obtain ⟨rfl,hs⟩:=chk_some hs; cases hs
    exact XS.iconst h hx rfl hd hr
  · obtain ⟨rfl,hs⟩:=chk_some hs; cases hs
    exact XS.bipush h hx rfl hd hr
  · obtain ⟨rfl,hs⟩:=chk_some hs; cases hs
    exact XS.sipush h hx rfl hd hr
  · obtain ⟨rfl,hs⟩:=chk_some hs; cases hs
    exact XT.lconst h hx rfl hd hr
  · obtain ⟨rfl,hs⟩:=chk_some hs; obtain ⟨x,y,r,rfl,rfl⟩:=b2_some hs
    exact XS.iadd h hx rfl hd rfl hr
  · obtain ⟨rfl,hs⟩:=chk_some hs; obtain ⟨x,y,r,rfl,rfl⟩:=b2_some hs
    exact XS.isub h hx rfl hd rfl hr
  · obtain ⟨rfl,hs⟩:=chk_some hs; obtain ⟨x,y,r,rfl,rfl⟩:=b2_some hs
    exact XS.imul h hx rfl hd rfl hr
  · obtain ⟨rfl,hs⟩:=chk_some hs; obtain ⟨x,y,r,rfl,rfl⟩:=b2_some hs
    exact XS.iand h hx rfl hd rfl hr
  · obtain ⟨rfl,hs⟩:=chk_some hs; obtain ⟨x,y,r,rfl,rfl⟩:=b2_some hs
    exact XT.ior h hx rfl hd rfl hr
  · obtain ⟨rfl,hs⟩:=chk_some hs; obtain ⟨x,y,r,rfl,rfl⟩:=b2_some hs
    exact XT.ixor h hx rfl hd rfl hr
  · obtain ⟨rfl,hs⟩:=chk_some hs; obtain ⟨x,y,r,rfl,rfl⟩:=b2_some hs
    exact XT.ishl h hx rfl hd rfl hr
  · obtain ⟨rfl,hs⟩:=chk_some hs; obtain ⟨x,y,r,rfl,rfl⟩:=b2_some hs
    exact XT.ishr h hx rfl hd rfl hr
  · obtain ⟨rfl,hs⟩:=chk_some hs; obtain ⟨x,y,r,rfl,rfl⟩:=b2_some hs
    exact XT.iushr h hx rfl hd rfl hr
  · obtain ⟨rfl,hs⟩:=chk_some hs; obtain ⟨x,y,r,rfl,h2,rfl⟩:=d2_some hs
    exact XS.idiv h hx rfl hd rfl h2 hr
  · obtain ⟨rfl,hs⟩:=chk_some hs; obtain ⟨x,y,r,rfl,h2,rfl⟩:=d2_some hs
    refine XS.irem h hx rfl hd rfl h2 ?_
    have q:x - x / y * y=x % y:=irem_eq_mod x y
    rw [q]; exact hr
  · obtain ⟨rfl,hs⟩:=chk_some hs; obtain ⟨x,r,rfl,rfl⟩:=u1_some hs
    exact XS.ineg h hx rfl hd rfl hr
  · obtain ⟨rfl,hs⟩:=chk_some hs; obtain ⟨x,r,rfl,rfl⟩:=u1_some hs
    exact XT.i2b h hx rfl hd rfl hr
  · obtain ⟨rfl,hs⟩:=chk_some hs; obtain ⟨x,r,rfl,rfl⟩:=u1_some hs
    exact XT.i2c h hx rfl hd rfl hr
  · obtain ⟨rfl,hs⟩:=chk_some hs; obtain ⟨x,y,r,rfl,rfl⟩:=l2_some hs
    exact XT.ladd h hx rfl hd rfl hr
  · obtain ⟨rfl,hs⟩:=chk_some hs; obtain ⟨x,y,r,rfl,rfl⟩:=l2_some hs
    exact XT.lsub h hx rfl hd rfl hr
  · obtain ⟨rfl,hs⟩:=chk_some hs; obtain ⟨x,y,r,rfl,rfl⟩:=l2_some hs
    exact XT.lmul h hx rfl hd rfl hr
  · obtain ⟨rfl,hs⟩:=chk_some hs; obtain ⟨x,y,r,rfl,rfl⟩:=l2_some hs
    exact XT.land h hx rfl hd rfl hr
  · obtain ⟨rfl,hs⟩:=chk_some hs; obtain ⟨x,y,r,rfl,rfl⟩:=l2_some hs
    exact XT.lor h hx rfl hd rfl hr
  · obtain ⟨rfl,hs⟩:=chk_some hs; obtain ⟨x,y,r,rfl,rfl⟩:=l2_some hs
    exact XT.lxor h hx rfl hd rfl hr
  · obtain ⟨rfl,hs⟩:=chk_some hs; obtain ⟨x,y,r,rfl,rfl⟩:=lsh_some hs
    exact XT.lshl h hx rfl hd rfl hr
  · obtain ⟨rfl,hs⟩:=chk_some hs; obtain ⟨x,y,r,rfl,rfl⟩:=lsh_some hs
    exact XT.lshr h hx rfl hd rfl hr
  · obtain ⟨rfl,hs⟩:=chk_some hs; obtain ⟨x,y,r,rfl,rfl⟩:=lsh_some hs
    exact XT.lushr h hx rfl hd rfl hr
  · obtain ⟨rfl,hs⟩:=chk_some hs
    split at hs
    · cases hs; exact XT.lneg h hx rfl hd rfl hr
    · cases hs
  · obtain ⟨rfl,hs⟩:=chk_some hs
    split at hs
    · cases hs; exact XT.i2l h hx rfl hd rfl hr
    · cases hs
  · obtain ⟨rfl,hs⟩:=chk_some hs
    split at hs
    · cases hs; exact XT.l2i h hx rfl hd rfl hr
    · cases hs
  · obtain ⟨rfl,hs⟩:=chk_some hs
    split at hs
    · cases hs; exact XT.lcmp h hx rfl hd rfl hr
    · cases hs
  · obtain ⟨rfl,hs⟩:=chk_some hs
    split at hs
    · rename_i x h1
      obtain ⟨l',h2,rfl⟩:=Option.map_eq_some_iff.mp hs
      exact XS.iinc h hx rfl hd (loc_get (f:=f) h1) (stl_ren (f:=f) h2) hr
    · cases hs
  · obtain ⟨rfl,hs⟩:=chk_some hs
    split at hs
    · split at hs
      · rename_i hc; cases hs; exact XS.dup h hx rfl hd rfl (by rw [ren_cat]; exact hc) hr
      · cases hs
    · cases hs
  · obtain ⟨rfl,hs⟩:=chk_some hs
    split at hs
    · cases hs; exact XT.dup2L h hx rfl hd rfl hr
    · split at hs
      · rename_i hc; cases hs; exact XT.dup2 h hx rfl hd rfl (by rw [ren_cat]; exact hc.1) (by rw [ren_cat]; exact hc.2) hr
      · cases hs
    · cases hs
  · obtain ⟨rfl,hs⟩:=chk_some hs
    split at hs
    · split at hs
      · rename_i hc; cases hs; exact XT.pop h hx rfl hd rfl (by rw [ren_cat]; exact hc) hr
      · cases hs
    · cases hs
  · obtain ⟨rfl,hs⟩:=chk_some hs
    obtain ⟨t,h1,rfl⟩:=Option.map_eq_some_iff.mp hs
    obtain ⟨h2,h3⟩:=jmp_some h1
    exact XS.goto h hx rfl rfl hd h2 h3 hr
  · obtain ⟨rfl,hs⟩:=chk_some hs
    split at hs
    · rcases br_some hs with ⟨hc,t,h1,h2,rfl⟩ | ⟨hc,rfl⟩
      · exact XS.ifYes h hx rfl rfl hd rfl hc h1 h2 hr
      · exact XS.ifNo h hx rfl hd rfl hc hr
    · cases hs
  · obtain ⟨rfl,hs⟩:=chk_some hs
    split at hs
    · rcases br_some hs with ⟨hc,t,h1,h2,rfl⟩ | ⟨hc,rfl⟩
      · exact XS.icmpYes h hx rfl rfl hd rfl hc h1 h2 hr
      · exact XS.icmpNo h hx rfl hd rfl hc hr
    · cases hs
  · unfold sw at hs
    split at hs
    · split at hs
      · rename_i hc
        obtain ⟨t,h1,rfl⟩:=Option.map_eq_some_iff.mp hs
        obtain ⟨h2,h3⟩:=jmp_some h1
        exact XS.tswOut h hx rfl rfl hd rfl hc h2 h3 hr
      · rename_i hc
        split at hs
        · rename_i o ho
          obtain ⟨t,h1,rfl⟩:=Option.map_eq_some_iff.mp hs
          obtain ⟨h2,h3⟩:=jmp_some h1
          exact XS.tswIn h hx rfl rfl hd rfl hc ho h2 h3 hr
        · cases hs
    · cases hs
  · cases hs
end X
theorem xstep_size {ins:Instr}{len pc:Nat}{ls:List Slot}{st:List Value}{q:Nat × List Slot × List Value} (hs:xstep ins len pc ls st=some q):q.2.1.length=ls.length:=by
  unfold xstep at hs
  split at hs
  all_goals first
    | (obtain ⟨rfl,hs⟩:=chk_some hs; obtain ⟨v,h1,h2,rfl⟩:=ldV_some hs; rfl)
    | (obtain ⟨rfl,hs⟩:=chk_some hs; obtain ⟨v,r,l',rfl,h2,h3,rfl⟩:=stV_some hs; exact stl_size h3)
    | (obtain ⟨rfl,hs⟩:=chk_some hs; cases hs; rfl)
    | (obtain ⟨rfl,hs⟩:=chk_some hs; obtain ⟨x,y,r,rfl,rfl⟩:=b2_some hs; rfl)
    | (obtain ⟨rfl,hs⟩:=chk_some hs; obtain ⟨x,y,r,rfl,h2,rfl⟩:=d2_some hs; rfl)
    | (obtain ⟨rfl,hs⟩:=chk_some hs; obtain ⟨x,r,rfl,rfl⟩:=u1_some hs; rfl)
    | (obtain ⟨rfl,hs⟩:=chk_some hs; obtain ⟨x,y,r,rfl,rfl⟩:=l2_some hs; rfl)
    | (obtain ⟨rfl,hs⟩:=chk_some hs; obtain ⟨x,y,r,rfl,rfl⟩:=lsh_some hs; rfl)
    | (obtain ⟨rfl,hs⟩:=chk_some hs; split at hs <;> first | (cases hs; rfl) | (cases hs; done))
    | (obtain ⟨rfl,hs⟩:=chk_some hs; split at hs <;> first | (obtain ⟨l',h2,rfl⟩:=Option.map_eq_some_iff.mp hs; exact stl_size h2) | (cases hs; done))
    | (obtain ⟨rfl,hs⟩:=chk_some hs; split at hs <;> first | (split at hs <;> first | (cases hs; rfl) | (cases hs; done)) | (cases hs; rfl) | (cases hs; done))
    | (obtain ⟨rfl,hs⟩:=chk_some hs; obtain ⟨t,h1,rfl⟩:=Option.map_eq_some_iff.mp hs; rfl)
    | (obtain ⟨rfl,hs⟩:=chk_some hs; split at hs <;> first | (rcases br_some hs with ⟨hc,t,h1,h2,rfl⟩ | ⟨hc,rfl⟩ <;> rfl) | (cases hs; done))
    | (unfold sw at hs; split at hs <;> first | (cases hs; done) | (split at hs <;> first | (obtain ⟨t,h1,rfl⟩:=Option.map_eq_some_iff.mp hs; rfl) | (split at hs <;> first | (obtain ⟨t,h1,rfl⟩:=Option.map_eq_some_iff.mp hs; rfl) | (cases hs; done))))
    | (cases hs; done)
end Jvm.Own
namespace Jvm.Own
open Sem ClassFile Op Lib Jvm.Stand Jvm.Free Jvm.LawKit Jvm.RoadKit
def adr (k sa n0 i:Nat):Nat:=if i < k then sa else n0+(i - k)
def SimO (Z:State) (ws:Ws) (f:Nat→Nat) (h:Heap) (a:Addr):FieldType × List Value→Prop
  | (.object C,vs) => Exa Z h a C∧∀ n t j,fidx ws C n t=some j→∃ v,vs[j]?=some v∧Fld Z h a C n t (ren f v)
  | (.array ty,vs) => ∃ c:Cell,Arr Z h a c ty∧c.slots=(vs.map (ren f)).toArray
  | _ => False
def Sim (Z:State) (ws:Ws) (k sa n0:Nat) (H:AHeap) (h:Heap):Prop :=
  h.size=n0+(H.length - k)∧k≤H.length∧k≤1∧(1≤k→sa < n0)∧∀ i o,H[i]?=some o→SimO Z ws (adr k sa n0) h (adr k sa n0 i) o
def cost (ws:Ws):FieldType × List Value→Nat
  | (.object C,_) => (rInst ws C).getD 0
  | (_,vs) => vs.length
def tot (ws:Ws) (H:AHeap):Nat:=(H.map (cost ws)).sum
theorem adr_inj {k sa n0 i j:Nat} (hk:k≤1) (hs:1≤k→sa < n0) (e:adr k sa n0 i=adr k sa n0 j):i=j:=by
  unfold adr at e; split at e <;> split at e <;> omega
theorem adr_ge {k sa n0 a:Nat} (h:k≤a):n0≤adr k sa n0 a:=by
  unfold adr; rw [if_neg (by omega)]; omega
theorem tot_app (ws:Ws) (H:AHeap) (o:FieldType × List Value):tot ws (H ++ [o])=tot ws H+cost ws o:=by simp [tot]
theorem tot_set {ws:Ws}:∀ {H:AHeap}{a:Nat}{o o':FieldType × List Value},H[a]?=some o→cost ws o'=cost ws o→tot ws (H.set a o')=tot ws H
  | [],_,_,_,h,_ => by cases h
  | x::r,0,o,o',h,e => by
    simp only [List.getElem?_cons_zero,Option.some.injEq] at h; subst h
    simp [tot,e]
  | x::r,a+1,o,o',h,e => by
    have:=tot_set (ws:=ws) (H:=r) (a:=a) (o:=o) (o':=o') (by simpa using h) e
    simp only [tot,List.set_cons_succ,List.map_cons,List.sum_cons] at this ⊢
    rw [this]
theorem ren_dflt (f:Nat→Nat) (ty:FieldType):ren f (defaultValue ty)=defaultValue ty:=by cases ty <;> rfl
section Facts
variable {Z:State}{ws:Ws}{f:Nat→Nat}{h h':Heap}{a b:Addr}{o:FieldType × List Value}{sl:Nat}{v:Value}
theorem SimO.ext (E:Ext h h') (S:SimO Z ws f h a o):SimO Z ws f h' a o:=by
  unfold SimO at S ⊢
  split at S
  · exact ⟨S.1.ext E,fun n t j q => by obtain ⟨v,h1,h2⟩:=S.2 n t j q; exact ⟨v,h1,h2.ext E⟩⟩
  · obtain ⟨c,h1,h2⟩:=S; exact ⟨c,h1.ext E,h2⟩
  · exact S.elim
theorem SimO.other (W:Wr h h' b sl v) (ne:a ≠ b) (S:SimO Z ws f h a o):SimO Z ws f h' a o:=by
  unfold SimO at S ⊢
  split at S
  · exact ⟨S.1.wr W,fun n t j q => by obtain ⟨v,h1,h2⟩:=S.2 n t j q; exact ⟨v,h1,h2.other W (Or.inl ne)⟩⟩
  · obtain ⟨c,h1,h2⟩:=S; exact ⟨c,h1.other W ne,h2⟩
  · exact S.elim
theorem Sim.push {k sa n0:Nat}{H:AHeap} (S:Sim Z ws k sa n0 H h) (E:Ext h h') (hz:h'.size=h.size+1) (O:SimO Z ws (adr k sa n0) h' h.size o):Sim Z ws k sa n0 (H ++ [o]) h':=by
  obtain ⟨h1,h2,h3,h4,h5⟩:=S
  refine ⟨by rw [hz,h1,List.length_append,List.length_singleton]; omega,by rw [List.length_append]; omega,h3,h4,fun i o' q => ?_⟩
  rcases Nat.lt_trichotomy i H.length with g | g | g
  · rw [List.getElem?_append_left g] at q; exact (h5 i o' q).ext E
  · subst g
    rw [List.getElem?_append_right (Nat.le_refl _),Nat.sub_self] at q
    cases q
    have e:adr k sa n0 H.length=h.size:=by unfold adr; rw [if_neg (by omega),h1]
    rw [e]; exact O
  · rw [List.getElem?_eq_none (by simp; omega)] at q; cases q
theorem Sim.next {k sa n0:Nat}{H:AHeap} (S:Sim Z ws k sa n0 H h):h.size=adr k sa n0 H.length:=by
  obtain ⟨h1,h2,-⟩:=S
  unfold adr; rw [if_neg (by omega),h1]
theorem Wr.upd {k sa n0 i:Nat}{H:AHeap}{o':FieldType × List Value} (S:Sim Z ws k sa n0 H h) (W:Wr h h' (adr k sa n0 i) sl v) (O:SimO Z ws (adr k sa n0) h' (adr k sa n0 i) o'):Sim Z ws k sa n0 (H.set i o') h':=by
  obtain ⟨h1,h2,h3,h4,h5⟩:=S
  refine ⟨by rw [W.size,h1,List.length_set],by rw [List.length_set]; exact h2,h3,h4,fun j q hq => ?_⟩
  by_cases e:i=j
  · subst e
    rw [List.getElem?_set_self' ] at hq
    cases hi:H[i]? with
    | none => rw [hi] at hq; cases hq
    | some x => rw [hi] at hq; cases hq; exact O
  · rw [List.getElem?_set_ne e] at hq
    exact (h5 j q hq).other W fun g => e (adr_inj h3 h4 g).symm
end Facts
theorem putv_ok {ty:FieldType}{v v':Value} (f:Nat→Nat) (h:putv ty v=some v'):narrow ty (ren f v)=ren f v'∧fits ty (ren f v')=true:=by
  unfold putv at h
  split at h
  · cases h; exact ⟨rfl,rfl⟩
  · cases h; exact ⟨rfl,fits_nar_bool _⟩
  · cases h; exact ⟨rfl,fits_nar_byte _⟩
  · cases h; exact ⟨rfl,fits_nar_char _⟩
  · cases h; exact ⟨rfl,fits_nar_short _⟩
  · cases h; exact ⟨rfl,rfl⟩
  · cases h; exact ⟨rfl,rfl⟩
  · cases h
theorem size_set (c:Cell) (j:Nat) (v:Value) (f:Nat→Nat) {vs:List Value}{v':Value} (e:c.slots=(vs.map (ren f)).toArray) (q:v=ren f v'):(c.setSlot j v).slots=((vs.set j v').map (ren f)).toArray:=by
  subst q
  show c.slots.setIfInBounds j (ren f v')=_
  rw [e,List.setIfInBounds_toArray,List.map_set]
section H
variable {p:Program}{l:Launch}{e:Env}{R:Room}{s:State}{m:MethodId}{args:Array Value}{below:List Frame}{meth:Method}{c:Code}{T:State}{locs:List Loc}{cells slots:Nat}
  {Z:State}{a0:Array Value}{ws:Ws}{k sa n0:Nat}{y:MethodName}{pc:Nat}{ls:List Slot}{st:List Value}{H:AHeap}
def Beh (p:Program) (l:Launch) (e:Env) (R:Room) (s:State) (m:MethodId) (args:Array Value) (below:List Frame) (meth:Method) (c:Code) (T:State) (Z:State) (ws:Ws) (k sa n0 cells slots:Nat) (H:AHeap) (g:JFrame) (pc':Nat) (ls':List Slot) (st':List Value) (H':AHeap):Prop :=
  ∃ T' locs',Stand p l e R s m args below meth c T' locs' (cells+(H'.length - H.length)) (slots+(tot ws H' - tot ws H))∧Sim Z ws k sa n0 H' T'.heap∧Fr n0 locs' ∧
    ∀ target,Steps p.tables e below (T'.setTop (fr (adr k sa n0) m pc' ls' st')) target→Steps p.tables e below (T.setTop g) target
theorem Beh.stay {g:JFrame}{pc':Nat}{st':List Value}{T':State} (X:Stand p l e R s m args below meth c T' locs cells slots) (S:Sim Z ws k sa n0 H T'.heap) (N:Fr n0 locs)
    (h:∀ target,Steps p.tables e below (T'.setTop (fr (adr k sa n0) m pc' ls st')) target→Steps p.tables e below (T.setTop g) target):Beh p l e R s m args below meth c T Z ws k sa n0 cells slots H g pc' ls st' H :=
  ⟨T',locs,by rw [Nat.sub_self,Nat.sub_self]; exact X,S,N,h⟩
theorem hGet_sound (hw:∀ d ∈ ws,d.before a0 Z=true) (X:Stand p l e R s m args below meth c T locs cells slots) (hx:p.tables.exec=Jvm.exec) (hZ:Z.Warmed39 s.vm) (hown:s.vm.findClass y.cls=some m.cls)
    {i:Nat} (hd:decode c.code pc=.ok (.getfield i,3)) {q:Nat × List Value × AHeap} (hs:hGet ws y.cls i pc H st=some q) (S:Sim Z ws k sa n0 H T.heap) (N:Fr n0 locs) :
    Beh p l e R s m args below meth c T Z ws k sa n0 cells slots H (fr (adr k sa n0) m pc ls st) q.1 ls q.2.1 q.2.2:=by
  unfold hGet at hs
  split at hs
  · rename_i a r
    split at hs
    · rename_i C j C' vs q1 q2
      split at hs
      · rename_i hC; subst hC
        obtain ⟨v,hv,rfl⟩:=Option.map_eq_some_iff.mp hs
        obtain ⟨n,t,r1,r2⟩:=gfR_some q1
        obtain ⟨v',hv',F⟩:=(S.2.2.2.2 a _ q2).2 n t j r2
        cases hv.symm.trans hv'
        obtain ⟨T',X',e',st'⟩:=getF X hx hZ hown (host := "") (Or.inl (hw _ (rFld_mem r1))) Via.refl rfl F (g:=fr (adr k sa n0) m pc ls (.ref a::r)) rfl rfl hd
        exact Beh.stay X' (by rw [e']; exact S) N st'
      · cases hs
    · cases hs
  · cases hs
theorem hPut_sound (hw:∀ d ∈ ws,d.before a0 Z=true) (X:Stand p l e R s m args below meth c T locs cells slots) (hx:p.tables.exec=Jvm.exec) (hZ:Z.Warmed39 s.vm) (hown:s.vm.findClass y.cls=some m.cls) (hnm:meth.name=y.name)
    {i:Nat} (hd:decode c.code pc=.ok (.putfield i,3)) {q:Nat × List Value × AHeap} (hs:hPut ws k y.cls y.name i pc H st=some q) (S:Sim Z ws k sa n0 H T.heap) (N:Fr n0 locs) :
    Beh p l e R s m args below meth c T Z ws k sa n0 cells slots H (fr (adr k sa n0) m pc ls st) q.1 ls q.2.1 q.2.2:=by
  unfold hPut at hs
  split at hs
  · rename_i v a r
    split at hs
    · rename_i C j ty C' vs q1 q2
      split at hs
      · rename_i hC; obtain ⟨rfl,hk,hj⟩:=hC
        obtain ⟨v',hv,rfl⟩:=Option.map_eq_some_iff.mp hs
        obtain ⟨n,t,r1,r2,r3,r4,⟨ki,r5⟩,r6⟩:=pfR_some q1
        have SO:=S.2.2.2.2 a _ q2
        obtain ⟨w,hw',F⟩:=SO.2 n t j r2
        obtain ⟨g1,g2⟩:=putv_ok (adr k sa n0) hv
        obtain ⟨T',h',X',e',W,st'⟩:=putFN X hx hZ hown (hw _ (rFld_mem r1)) Via.refl rfl F SO.1 (r4.imp (fun q => hw _ q) fun q => ⟨hw _ q.1,q.2.1,hnm.trans q.2.2⟩) (hw _ r5) r3 g1 g2 (g:=fr (adr k sa n0) m pc ls (v::.ref a::r)) rfl rfl hd
        have LL:∀ {n' t':String},(n',t') ∈ olay ws C→Laid Z a0 C C n' t':=fun q => (lay_mem q).1.imp (fun q => hw _ q) (fun q => hw _ q)
        have O':SimO Z ws (adr k sa n0) h' (adr k sa n0 a) (.object C,vs.set j v'):=by
          refine ⟨SO.1.wr W,fun n' t' j' q' => ?_⟩
          obtain ⟨u,hu,F'⟩:=SO.2 n' t' j' q'
          by_cases ej:j=j'
          · subst ej
            obtain ⟨rfl,rfl⟩:=fidx_inj r2 q'
            exact ⟨v',by rw [List.getElem?_set_self hj],F.same W⟩
          · refine ⟨u,by rw [List.getElem?_set_ne ej]; exact hu,F'.other W (Or.inr ?_)⟩
            obtain ⟨-,ty',p'⟩:=lay_mem (fidx_mem q')
            refine slot_ne (LL (fidx_mem q')) (LL (fidx_mem r2)) (fun en => ?_) p' r3
            rcases r6 n' t' (fidx_mem q') with g | g
            · exact g en
            · subst en g; rw [r2] at q'; exact ej (Option.some.inj q')
        refine ⟨T',_,?_,by rw [e']; exact Wr.upd S W O',Fr.snoc X' N (adr_ge hk),st'⟩
        show Stand p l e R s m args below meth c T' _ (cells+((H.set a (.object C,vs.set j v')).length - H.length)) (slots+(tot ws (H.set a (.object C,vs.set j v')) - tot ws H))
        rw [List.length_set,tot_set (o:=(.object C,vs)) (o':=(.object C,vs.set j v')) q2 rfl,Nat.sub_self,Nat.sub_self]
        exact X'
      · cases hs
    · cases hs
  · cases hs
theorem hNew_sound (hw:∀ d ∈ ws,d.before a0 Z=true) (X:Stand p l e R s m args below meth c T locs cells slots) (hx:p.tables.exec=Jvm.exec) (hZ:Z.Warmed39 s.vm) (hown:s.vm.findClass y.cls=some m.cls)
    {i:Nat} (hd:decode c.code pc=.ok (.new i,3)) {q:Nat × List Value × AHeap} (hs:hNew ws y.cls i pc H st=some q) (S:Sim Z ws k sa n0 H T.heap) (N:Fr n0 locs)
    (hc:cells+(q.2.2.length - H.length)≤R.cells) (hl:slots+(tot ws q.2.2 - tot ws H)≤R.slots) (hz0:T.heap.size=s.heap.size+cells) :
    Beh p l e R s m args below meth c T Z ws k sa n0 cells slots H (fr (adr k sa n0) m pc ls st) q.1 ls q.2.1 q.2.2:=by
  unfold hNew at hs
  split at hs
  · rename_i C q1
    split at hs
    · rename_i g; cases hs
      obtain ⟨ki,hki⟩:=Option.isSome_iff_exists.mp g.1
      have ec:(H ++ [(FieldType.object C,(olay ws C).map dflt)]).length - H.length=1:=by simp
      have es:tot ws (H ++ [(FieldType.object C,(olay ws C).map dflt)]) - tot ws H=ki:=by
        rw [tot_app]; simp [cost,hki]
      dsimp only at hc hl ⊢
      rw [ec] at hc; rw [es] at hl
      have hz:=S.next
      obtain ⟨T',h',X',e',E,A,D,-,st'⟩:=newO X hx hZ hown (hw _ (rCls_mem q1)) (hw _ (rInst_mem hki)) (hw _ (hasInit_mem g.2)) rfl (g:=fr (adr k sa n0) m pc ls st) rfl hd hc hl
      have hz':h'.size=T.heap.size+1:=by
        have u1:=X'.heapSize
        have a1:(T.heap.size:Nat) < h'.size:=A.lt
        rw [e'] at u1
        omega
      refine ⟨T',locs,by rw [ec,es]; exact X',?_,N,?_⟩
      · rw [e']
        refine S.push E hz' ⟨A,fun n t j q => ?_⟩
        have hm:=fidx_mem q
        obtain ⟨q2,ty,q3⟩:=lay_mem hm
        refine ⟨dflt (n,t),by rw [List.getElem?_map,idx_get q]; rfl,?_⟩
        have F:=D (O:=C) (nm:=n) (d:=t) (q2.imp (fun q => hw _ q) (fun q => hw _ q)) q3
        have e3:ren (adr k sa n0) (dflt (n,t))=defaultValue ty:=by simp only [dflt,q3,ren_dflt]
        rw [e3]; exact F
      · intro target ht
        rw [hz] at st'
        exact st' target ht
    · cases hs
  · cases hs
theorem hNewA_sound (hw:∀ d ∈ ws,d.before a0 Z=true) (X:Stand p l e R s m args below meth c T locs cells slots) (hx:p.tables.exec=Jvm.exec) (hZ:Z.Warmed39 s.vm)
    {aty:ArrayType} (hd:decode c.code pc=.ok (.newarray aty,2)) {q:Nat × List Value × AHeap} (hs:hNewA ws aty pc H st=some q) (S:Sim Z ws k sa n0 H T.heap) (N:Fr n0 locs)
    (hc:cells+(q.2.2.length - H.length)≤R.cells) (hl:slots+(tot ws q.2.2 - tot ws H)≤R.slots) (hz0:T.heap.size=s.heap.size+cells) :
    Beh p l e R s m args below meth c T Z ws k sa n0 cells slots H (fr (adr k sa n0) m pc ls st) q.1 ls q.2.1 q.2.2:=by
  unfold hNewA at hs
  split at hs
  · rename_i n r
    split at hs
    · rename_i g; cases hs
      obtain ⟨g1,g2,g3⟩:=g
      have ec:(H ++ [(FieldType.array (newarray.typeOf aty),List.replicate n.toNatClampNeg (defaultValue (newarray.typeOf aty)))]).length - H.length=1:=by simp
      have es:tot ws (H ++ [(FieldType.array (newarray.typeOf aty),List.replicate n.toNatClampNeg (defaultValue (newarray.typeOf aty)))]) - tot ws H=n.toNatClampNeg:=by
        rw [tot_app]; simp [cost]
      dsimp only at hc hl ⊢
      rw [ec] at hc; rw [es] at hl
      have hz:=S.next
      obtain ⟨T',h',cA,X',e',E,A,st'⟩:=newP X hx hZ (hw _ (hasArr_mem g1)) rfl (g:=fr (adr k sa n0) m pc ls (.int n::r)) rfl hd rfl g2 (cap:=n.toNatClampNeg) (Nat.le_refl _) g3 hc hl
      have hz':h'.size=T.heap.size+1:=by
        have u1:=X'.heapSize
        have a1:(T.heap.size:Nat) < h'.size:=A.lt
        rw [e'] at u1
        omega
      refine ⟨T',locs,by rw [ec,es]; exact X',?_,N,?_⟩
      · rw [e']
        refine S.push E hz' ⟨_,A,?_⟩
        simp [newA,ren_dflt]
      · intro target ht
        rw [hz] at st'
        exact st' target ht
    · cases hs
  · cases hs
theorem hLd_some {ok:FieldType→Bool}{q:Nat × List Value × AHeap} (hs:hLd ok pc H st=some q):∃ j a r ty vs v,st=.int j::.ref a::r∧H[a]?=some (.array ty,vs)∧ok ty=true∧¬ j < 0∧vs[j.toNatClampNeg]?=some v∧q=(pc+1,v::r,H):=by
  unfold hLd at hs
  split at hs
  · split at hs
    · split at hs
      · rename_i g
        obtain ⟨v,h1,h2⟩:=Option.map_eq_some_iff.mp hs
        exact ⟨_,_,_,_,_,v,rfl,by assumption,g.1,g.2,h1,h2.symm⟩
      · cases hs
    · cases hs
  · cases hs
theorem hSt_some {ok:FieldType→Bool}{q:Nat × List Value × AHeap} (hs:hSt ok k pc H st=some q):∃ v j a r ty vs v',st=v::.int j::.ref a::r∧H[a]?=some (.array ty,vs)∧ok ty=true∧k≤a∧¬ j < 0∧j.toNatClampNeg < vs.length∧putv ty v=some v'∧q=(pc+1,r,H.set a (.array ty,vs.set j.toNatClampNeg v')):=by
  unfold hSt at hs
  split at hs
  · split at hs
    · split at hs
      · rename_i g
        obtain ⟨v,h1,h2⟩:=Option.map_eq_some_iff.mp hs
        exact ⟨_,_,_,_,_,_,v,rfl,by assumption,g.1,g.2.1,g.2.2.1,g.2.2.2,h1,h2.symm⟩
      · cases hs
    · cases hs
  · cases hs
theorem hLen_some {q:Nat × List Value × AHeap} (hs:hLen pc H st=some q):∃ a r ty vs,st=.ref a::r∧H[a]?=some (.array ty,vs)∧q=(pc+1,.int vs.length.toInt32::r,H):=by
  unfold hLen at hs
  split at hs
  · split at hs
    · cases hs; exact ⟨_,_,_,_,rfl,by assumption,rfl⟩
    · cases hs
  · cases hs
theorem st_beh {T':State}{h':Heap}{a j:Nat}{ty:FieldType}{vs:List Value}{v':Value}{r:List Value}{g:JFrame} (X':Stand p l e R s m args below meth c T' (locs ++ [⟨adr k sa n0 a,j⟩]) cells slots) (e':T'.heap=h') (W:Wr T.heap h' (adr k sa n0 a) j (ren (adr k sa n0) v'))
    (S:Sim Z ws k sa n0 H T.heap) (N:Fr n0 locs) (q2:H[a]?=some (.array ty,vs)) (hk:k≤a)
    (st':∀ target,Steps p.tables e below (T'.setTop (fr (adr k sa n0) m (pc+1) ls r)) target→Steps p.tables e below (T.setTop g) target) :
    Beh p l e R s m args below meth c T Z ws k sa n0 cells slots H g (pc+1) ls r (H.set a (.array ty,vs.set j v')):=by
  obtain ⟨cl,A,es⟩:=S.2.2.2.2 a _ q2
  refine ⟨T',_,?_,by rw [e']; exact Wr.upd S W ⟨_,A.same W,size_set cl j _ _ es rfl⟩,Fr.snoc X' N (adr_ge hk),st'⟩
  rw [List.length_set,tot_set (o:=(.array ty,vs)) (o':=(.array ty,vs.set j v')) q2 (by simp [cost]),Nat.sub_self,Nat.sub_self]
  exact X'
set_option maxHeartbeats 1000000 in
theorem hstep_sound (hw:∀ d ∈ ws,d.before a0 Z=true) (X:Stand p l e R s m args below meth c T locs cells slots) (hx:p.tables.exec=Jvm.exec) (hZ:Z.Warmed39 s.vm) (hown:s.vm.findClass y.cls=some m.cls) (hnm:meth.name=y.name)
    {ins:Instr}{len:Nat} (hd:decode c.code pc=.ok (ins,len)) {q:Nat × List Value × AHeap} (hs:hstep ws k y ins len pc st H=some q) (S:Sim Z ws k sa n0 H T.heap) (N:Fr n0 locs)
    (hc:cells+(q.2.2.length - H.length)≤R.cells) (hl:slots+(tot ws q.2.2 - tot ws H)≤R.slots) (hz0:T.heap.size=s.heap.size+cells) :
    Beh p l e R s m args below meth c T Z ws k sa n0 cells slots H (fr (adr k sa n0) m pc ls st) q.1 ls q.2.1 q.2.2:=by
  unfold hstep at hs
  split at hs
  · obtain ⟨rfl,hs⟩:=chk_some hs
    exact hGet_sound hw X hx hZ hown hd hs S N
  · obtain ⟨rfl,hs⟩:=chk_some hs
    exact hPut_sound hw X hx hZ hown hnm hd hs S N
  · obtain ⟨rfl,hs⟩:=chk_some hs
    exact hNew_sound hw X hx hZ hown hd hs S N hc hl hz0
  · obtain ⟨rfl,hs⟩:=chk_some hs
    exact hNewA_sound hw X hx hZ hd hs S N hc hl hz0
  · obtain ⟨rfl,hs⟩:=chk_some hs
    obtain ⟨j,a,r,ty,vs,v,rfl,q2,ho,hj,hv,rfl⟩:=hLd_some hs
    obtain rfl:ty=_:=of_decide_eq_true ho
    obtain ⟨cl,A,es⟩:=S.2.2.2.2 a _ q2
    have hlt:=(List.getElem?_eq_some_iff.mp hv).1
    exact Beh.stay X S N fun target ht => X.iaload hx (j:=j) (v:=ren (adr k sa n0) v) A.1 (State.isArrayOf_alike hZ.alike A.2.1) A.2.2 (fun g => g.elim hj fun g => by rw [es] at g; simp at g; omega) (by rw [es,List.getElem?_toArray,List.getElem?_map,hv]; rfl) (g:=fr (adr k sa n0) m pc ls (.int j::.ref a::r)) rfl rfl hd target ht
  · obtain ⟨rfl,hs⟩:=chk_some hs
    obtain ⟨j,a,r,ty,vs,v,rfl,q2,ho,hj,hv,rfl⟩:=hLd_some hs
    obtain rfl:ty=_:=of_decide_eq_true ho
    obtain ⟨cl,A,es⟩:=S.2.2.2.2 a _ q2
    have hlt:=(List.getElem?_eq_some_iff.mp hv).1
    exact Beh.stay X S N fun target ht => X.caload hx (j:=j) (v:=ren (adr k sa n0) v) A.1 (State.isArrayOf_alike hZ.alike A.2.1) A.2.2 (fun g => g.elim hj fun g => by rw [es] at g; simp at g; omega) (by rw [es,List.getElem?_toArray,List.getElem?_map,hv]; rfl) (g:=fr (adr k sa n0) m pc ls (.int j::.ref a::r)) rfl rfl hd target ht
  · obtain ⟨rfl,hs⟩:=chk_some hs
    obtain ⟨j,a,r,ty,vs,v,rfl,q2,ho,hj,hv,rfl⟩:=hLd_some hs
    obtain rfl:ty=_:=of_decide_eq_true ho
    obtain ⟨cl,A,es⟩:=S.2.2.2.2 a _ q2
    have hlt:=(List.getElem?_eq_some_iff.mp hv).1
    exact Beh.stay X S N fun target ht => X.laload hx (j:=j) (v:=ren (adr k sa n0) v) A.1 (State.isArrayOf_alike hZ.alike A.2.1) A.2.2 (fun g => g.elim hj fun g => by rw [es] at g; simp at g; omega) (by rw [es,List.getElem?_toArray,List.getElem?_map,hv]; rfl) (g:=fr (adr k sa n0) m pc ls (.int j::.ref a::r)) rfl rfl hd target ht
  · obtain ⟨rfl,hs⟩:=chk_some hs
    obtain ⟨j,a,r,ty,vs,v,rfl,q2,ho,hj,hv,rfl⟩:=hLd_some hs
    obtain ⟨cl,A,es⟩:=S.2.2.2.2 a _ q2
    have hlt:=(List.getElem?_eq_some_iff.mp hv).1
    simp only [okB,Bool.or_eq_true,decide_eq_true_eq] at ho
    rcases ho with rfl | rfl
    · exact Beh.stay X S N fun target ht => X.baloadBytes hx (j:=j) (v:=ren (adr k sa n0) v) A.1 (State.isArrayOf_alike hZ.alike A.2.1) A.2.2 (fun g => g.elim hj fun g => by rw [es] at g; simp at g; omega) (by rw [es,List.getElem?_toArray,List.getElem?_map,hv]; rfl) (g:=fr (adr k sa n0) m pc ls (.int j::.ref a::r)) rfl rfl hd target ht
    · exact Beh.stay X S N fun target ht => X.baloadBooleans hx (j:=j) (v:=ren (adr k sa n0) v) A.1 (State.isArrayOf_alike hZ.alike A.2.1) A.2.2 (fun g => g.elim hj fun g => by rw [es] at g; simp at g; omega) (by rw [es,List.getElem?_toArray,List.getElem?_map,hv]; rfl) (g:=fr (adr k sa n0) m pc ls (.int j::.ref a::r)) rfl rfl hd target ht
  · obtain ⟨rfl,hs⟩:=chk_some hs
    obtain ⟨v,j,a,r,ty,vs,v',rfl,q2,ho,hk,hj,hlt,hv,rfl⟩:=hSt_some hs
    obtain rfl:ty=_:=of_decide_eq_true ho
    obtain ⟨cl,A,es⟩:=S.2.2.2.2 a _ q2
    cases v <;> simp only [putv,Option.some.injEq,reduceCtorEq] at hv
    subst hv
    obtain ⟨T',h',X',e',W,st'⟩:=stI X hx hZ rfl A (j:=j) (fun g => g.elim hj fun g => by rw [es] at g; simp at g; omega) (g:=fr (adr k sa n0) m pc ls (.int _::.int j::.ref a::r)) rfl rfl hd
    exact st_beh X' e' W S N q2 hk st'
  · obtain ⟨rfl,hs⟩:=chk_some hs
    obtain ⟨v,j,a,r,ty,vs,v',rfl,q2,ho,hk,hj,hlt,hv,rfl⟩:=hSt_some hs
    obtain rfl:ty=_:=of_decide_eq_true ho
    obtain ⟨cl,A,es⟩:=S.2.2.2.2 a _ q2
    cases v <;> simp only [putv,Option.some.injEq,reduceCtorEq] at hv
    subst hv
    obtain ⟨T',h',X',e',W,st'⟩:=stC X hx hZ rfl A (j:=j) (fun g => g.elim hj fun g => by rw [es] at g; simp at g; omega) (g:=fr (adr k sa n0) m pc ls (.int _::.int j::.ref a::r)) rfl rfl hd
    exact st_beh X' e' W S N q2 hk st'
  · obtain ⟨rfl,hs⟩:=chk_some hs
    obtain ⟨v,j,a,r,ty,vs,v',rfl,q2,ho,hk,hj,hlt,hv,rfl⟩:=hSt_some hs
    obtain rfl:ty=_:=of_decide_eq_true ho
    obtain ⟨cl,A,es⟩:=S.2.2.2.2 a _ q2
    cases v <;> simp only [putv,Option.some.injEq,reduceCtorEq] at hv
    subst hv
    obtain ⟨T',h',X',e',W,st'⟩:=stJ X hx hZ rfl A (j:=j) (fun g => g.elim hj fun g => by rw [es] at g; simp at g; omega) (g:=fr (adr k sa n0) m pc ls (.long _::.int j::.ref a::r)) rfl rfl hd
    exact st_beh X' e' W S N q2 hk st'
  · obtain ⟨rfl,hs⟩:=chk_some hs
    obtain ⟨v,j,a,r,ty,vs,v',rfl,q2,ho,hk,hj,hlt,hv,rfl⟩:=hSt_some hs
    obtain ⟨cl,A,es⟩:=S.2.2.2.2 a _ q2
    simp only [okB,Bool.or_eq_true,decide_eq_true_eq] at ho
    rcases ho with rfl | rfl
    · cases v <;> simp only [putv,Option.some.injEq,reduceCtorEq] at hv
      subst hv
      obtain ⟨T',h',X',e',W,st'⟩:=stB X hx hZ rfl A (j:=j) (fun g => g.elim hj fun g => by rw [es] at g; simp at g; omega) (g:=fr (adr k sa n0) m pc ls (.int _::.int j::.ref a::r)) rfl rfl hd
      exact st_beh X' e' W S N q2 hk st'
    · cases v <;> simp only [putv,Option.some.injEq,reduceCtorEq] at hv
      subst hv
      obtain ⟨T',h',X',e',W,st'⟩:=stZ X hx hZ rfl A (j:=j) (fun g => g.elim hj fun g => by rw [es] at g; simp at g; omega) (g:=fr (adr k sa n0) m pc ls (.int _::.int j::.ref a::r)) rfl rfl hd
      exact st_beh X' e' W S N q2 hk st'
  · obtain ⟨rfl,hs⟩:=chk_some hs
    obtain ⟨a,r,ty,vs,rfl,q2,rfl⟩:=hLen_some hs
    obtain ⟨cl,A,es⟩:=S.2.2.2.2 a _ q2
    have ez:cl.slots.size=vs.length:=by rw [es]; simp
    refine Beh.stay X S N fun target ht => X.arraylength hx (cell:=cl) A.1 (State.isArrayOf_alike hZ.alike A.2.1) (g:=fr (adr k sa n0) m pc ls (.ref a::r)) rfl rfl hd target ?_
    rw [ez]; exact ht
  · obtain ⟨rfl,hs⟩:=chk_some hs
    obtain ⟨v,hv,rfl⟩:=Option.map_eq_some_iff.mp hs
    exact Beh.stay X S N (X.ldcInt hx hown (mvT hZ (hw _ (rCon_mem hv))) (g:=fr (adr k sa n0) m pc ls st) rfl hd)
  · obtain ⟨rfl,hs⟩:=chk_some hs
    obtain ⟨v,hv,rfl⟩:=Option.map_eq_some_iff.mp hs
    exact Beh.stay X S N (X.ldcwInt hx hown (mvT hZ (hw _ (rCon_mem hv))) (g:=fr (adr k sa n0) m pc ls st) rfl hd)
  · obtain ⟨rfl,hs⟩:=chk_some hs
    obtain ⟨v,hv,rfl⟩:=Option.map_eq_some_iff.mp hs
    exact Beh.stay X S N (X.ldc2Long hx hown (mvT hZ (hw _ (rConL_mem hv))) (g:=fr (adr k sa n0) m pc ls st) rfl hd)
  · cases hs
end H
theorem hstep_size {ws:Ws}{k:Nat}{y:MethodName}{ins:Instr}{len pc:Nat}{st:List Value}{H:AHeap}{q:Nat × List Value × AHeap} (hs:hstep ws k y ins len pc st H=some q):H.length≤q.2.2.length∧tot ws H≤tot ws q.2.2:=by
  unfold hstep at hs
  split at hs
  · obtain ⟨rfl,hs⟩:=chk_some hs
    unfold hGet at hs
    split at hs
    · split at hs
      · split at hs
        · obtain ⟨v,-,rfl⟩:=Option.map_eq_some_iff.mp hs; exact ⟨Nat.le_refl _,Nat.le_refl _⟩
        · cases hs
      · cases hs
    · cases hs
  · obtain ⟨rfl,hs⟩:=chk_some hs
    unfold hPut at hs
    split at hs
    · split at hs
      · rename_i C j ty C' vs q1 q2
        split at hs
        · obtain ⟨v,-,rfl⟩:=Option.map_eq_some_iff.mp hs
          exact ⟨Nat.le_of_eq (by rw [List.length_set]),Nat.le_of_eq (tot_set (o:=(.object C',vs)) (o':=(.object C',vs.set j v)) q2 rfl).symm⟩
        · cases hs
      · cases hs
    · cases hs
  · obtain ⟨rfl,hs⟩:=chk_some hs
    unfold hNew at hs
    split at hs
    · split at hs
      · cases hs; exact ⟨by simp,by rw [tot_app]; omega⟩
      · cases hs
    · cases hs
  · obtain ⟨rfl,hs⟩:=chk_some hs
    unfold hNewA at hs
    split at hs
    · split at hs
      · cases hs; exact ⟨by simp,by rw [tot_app]; omega⟩
      · cases hs
    · cases hs
  all_goals first
    | (obtain ⟨rfl,hs⟩:=chk_some hs; obtain ⟨j,a,r,ty,vs,v,rfl,q2,ho,hj,hv,rfl⟩:=hLd_some hs; exact ⟨Nat.le_refl _,Nat.le_refl _⟩)
    | (obtain ⟨rfl,hs⟩:=chk_some hs; obtain ⟨v,j,a,r,ty,vs,v',rfl,q2,ho,hk,hj,hlt,hv,rfl⟩:=hSt_some hs; exact ⟨Nat.le_of_eq (by rw [List.length_set]),Nat.le_of_eq (tot_set (o:=(.array ty,vs)) (o':=(.array ty,vs.set _ v')) q2 (by simp [cost])).symm⟩)
    | (obtain ⟨rfl,hs⟩:=chk_some hs; obtain ⟨a,r,ty,vs,rfl,q2,rfl⟩:=hLen_some hs; exact ⟨Nat.le_refl _,Nat.le_refl _⟩)
    | (obtain ⟨rfl,hs⟩:=chk_some hs; obtain ⟨v,hv,rfl⟩:=Option.map_eq_some_iff.mp hs; exact ⟨Nat.le_refl _,Nat.le_refl _⟩)
    | (cases hs; done)
end Jvm.Own
namespace Jvm.Own
open Sem ClassFile Op Lib Jvm.Stand Jvm.Free Jvm.LawKit Jvm.RoadKit
theorem ent_ren (f:Nat→Nat):∀ as:List Value,ent (as.map (ren f))=(ent as).map (renS f)
  | [] => rfl
  | v::r => by
    simp only [List.map_cons,ent,ren_cat,ent_ren f r]
    split <;> rfl
theorem fill_eq:∀ (as:List Value) (acc:Array Slot),as.foldl (fun acc v => if v.category=2 then (acc.push (.val v)).push .second else acc.push (.val v)) acc=acc ++ (ent as).toArray
  | [],acc => by simp [ent]
  | v::r,acc => by
    simp only [List.foldl_cons,ent]
    split
    · rw [fill_eq r]; simp [← Array.toList_inj]
    · rw [fill_eq r]; simp [← Array.toList_inj]
theorem entry_eq (f:Nat→Nat) (m:MethodId) (as:List Value) (mx:Nat):entryFrame m (as.map (ren f)).toArray mx=fr f m 0 (entry as mx) []:=by
  have h:argsToLocals (as.map (ren f)).toArray mx=((entry as mx).map (renS f)).toArray:=by
    unfold argsToLocals entry
    simp only [List.foldl_toArray']
    rw [fill_eq,ent_ren]
    simp [← Array.toList_inj,renS]
  unfold entryFrame
  rw [h]; rfl
theorem entry_len {as:List Value}{mx:Nat} (h:(ent as).length≤mx):(entry as mx).length=mx:=by simp [entry]; omega
theorem wsum_ren (f:Nat→Nat) (st:List Value):((st.map (ren f)).map fun v => v.category).sum=wsum st:=by
  unfold wsum
  rw [List.map_map]
  congr 1
  apply List.map_congr_left
  intro v _
  exact ren_cat f v
section Inv
variable {ws:Ws}{dn:Dn}{k:Nat}{y:MethodName}{bytes:ByteArray}{ret:Option FieldType}{pc:Nat}{ls:List Slot}{st:List Value}{H:AHeap}
theorem cR_some {i:Nat}{y':MethodName}{b:ByteArray}{mx na sl:Nat}{r:Option FieldType} (h:cR ws dn y i=some (y',b,mx,r,na,sl)) :
    Jvm.Cond.methodLink y.cls i y' ∈ ws∧Jvm.Cond.code y' b mx r ∈ ws∧Jvm.Cond.initialized y'.cls ∈ ws∧Jvm.plainName y'.cls=true∧(y'.cls ≠ "java/lang/invoke/MethodHandle" ∧ y'.cls ≠ "java/lang/invoke/VarHandle")∧rCode ws y'=some (b,mx,r) ∧
    ∃ f' l' f l sig,dnOf dn y'=some (f',l')∧dnOf dn y=some (f,l)∧parseMethodDescriptor y'.desc=some sig∧na=sig.parameters.length∧f'+1≤f∧sl+(mx+11)+l'≤l:=by
  unfold cR at h
  split at h
  · cases h
  · rename_i z q1
    split at h
    · rename_i b' mx' r' f' l' f l sig q2 q3 q4 q5
      split at h
      · rename_i g
        cases h
        obtain ⟨g1,g2,g3,g4,g5,g6⟩:=g
        exact ⟨rMth_mem q1,rCode_mem q2,hasInit_mem g1,g2,⟨g3,g4⟩,q2,f',l',f,l,sig,q3,q4,q5,rfl,g5,by omega⟩
      · cases h
    · cases h
theorem act_ret {v:Option Value} (h:act ws dn k y bytes ret pc ls st H=some (.inl v)):(∃ z r t,decode bytes pc=.ok (.ireturn,1)∧st=.int z::r∧ret=some t∧(t=.int ∨ t=.boolean ∨ t=.byte ∨ t=.char ∨ t=.short)∧v=some (.int (nar t z))) ∨
    (∃ z,decode bytes pc=.ok (.lreturn,1)∧st=[.long z]∧ret=some .long∧v=some (.long z)) ∨ (decode bytes pc=.ok (.return_,1)∧st=[]∧ret=none∧v=none):=by
  unfold act at h
  split at h
  · cases h
  rename_i ins len hd
  split at h
  · cases h
  split at h
  · cases h
  unfold cstep at h
  split at h
  · obtain ⟨rfl,h⟩:=chk_some h
    split at h
    · split at h
      · rename_i g; cases h; exact Or.inl ⟨_,_,_,hd,rfl,rfl,g,rfl⟩
      · cases h
    · cases h
  · obtain ⟨rfl,h⟩:=chk_some h
    split at h
    · cases h; exact Or.inr (Or.inl ⟨_,hd,rfl,rfl,rfl⟩)
    · cases h
  · obtain ⟨rfl,h⟩:=chk_some h
    split at h
    · cases h; exact Or.inr (Or.inr ⟨hd,rfl,rfl,rfl⟩)
    · cases h
  · obtain ⟨rfl,h⟩:=chk_some h
    split at h
    · split at h <;> cases h
    · cases h
  · obtain ⟨rfl,h⟩:=chk_some h
    split at h
    · split at h
      · split at h <;> cases h
      · cases h
    · split at h
      · split at h
        · split at h <;> cases h
        · cases h
      · cases h
  · obtain ⟨rfl,h⟩:=chk_some h
    split at h
    · split at h
      · split at h
        · split at h <;> cases h
        · cases h
      · cases h
    · cases h
  · cases h
theorem act_step {pc':Nat}{ls':List Slot}{st':List Value}{H':AHeap} (h:act ws dn k y bytes ret pc ls st H=some (.inr (.inl (pc',ls',st',H')))):∃ ins len,decode bytes pc=.ok (ins,len) ∧
    ((xstep ins len pc ls st=some (pc',ls',st')∧H'=H) ∨ (ls'=ls∧hstep ws k y ins len pc st H=some (pc',st',H')) ∨
     (∃ i sl a r,ins=.invokespecial i∧len=3∧oR ws dn y i=some sl∧st=.ref a::r∧wsum r≤sl∧pc'=pc+3∧ls'=ls∧st'=r∧H'=H)):=by
  unfold act at h
  split at h
  · cases h
  rename_i ins len hd
  refine ⟨ins,len,hd,?_⟩
  split at h
  · rename_i g; cases h; exact Or.inl ⟨g,rfl⟩
  split at h
  · rename_i g; cases h; exact Or.inr (Or.inl ⟨rfl,g⟩)
  unfold cstep at h
  split at h
  · obtain ⟨rfl,h⟩:=chk_some h
    split at h
    · split at h <;> cases h
    · cases h
  · obtain ⟨rfl,h⟩:=chk_some h
    split at h <;> cases h
  · obtain ⟨rfl,h⟩:=chk_some h
    split at h <;> cases h
  · obtain ⟨rfl,h⟩:=chk_some h
    split at h
    · split at h <;> cases h
    · cases h
  · obtain ⟨rfl,h⟩:=chk_some h
    split at h
    · rename_i sl ho
      split at h
      · split at h
        · rename_i g; cases h; exact Or.inr (Or.inr ⟨_,sl,_,_,rfl,rfl,ho,rfl,g,rfl,rfl,rfl,rfl⟩)
        · cases h
      · cases h
    · split at h
      · split at h
        · split at h <;> cases h
        · cases h
      · cases h
  · obtain ⟨rfl,h⟩:=chk_some h
    split at h
    · split at h
      · split at h
        · split at h <;> cases h
        · cases h
      · cases h
    · cases h
  · cases h
theorem act_call {y':MethodName}{b:ByteArray}{r:Option FieldType}{en:List Slot}{rest:List Value} (h:act ws dn k y bytes ret pc ls st H=some (.inr (.inr (y',b,r,en,rest)))):∃ i mx na sl as,cR ws dn y i=some (y',b,mx,r,na,sl)∧en=entry as mx∧(ent as).length≤mx∧wsum rest≤sl ∧
    ((decode bytes pc=.ok (.invokestatic i,3)∧Jvm.Cond.static y' ∈ ws∧as.length=na∧st=as.reverse ++ rest) ∨
     (∃ a as',as=.ref a::as'∧as'.length=na∧st=as'.reverse ++ .ref a::rest∧Jvm.Cond.instanceMethod y' ∈ ws ∧
      ((decode bytes pc=.ok (.invokespecial i,3)∧y'.name = "<init>" ∧ r=none) ∨
       (decode bytes pc=.ok (.invokevirtual i,3)∧∃ C vs,H[a]?=some (.object C,vs)∧((Jvm.Cond.privateMethod y' ∈ ws∧∃ ki,Jvm.Cond.instantiable y'.cls ki ∈ ws) ∨ (Jvm.Cond.declares y' ∈ ws∧Jvm.Cond.selects y'.cls y' y' ∈ ws∧C=y'.cls)))))):=by
  unfold act at h
  split at h
  · cases h
  rename_i ins len hd
  split at h
  · cases h
  split at h
  · cases h
  unfold cstep at h
  split at h
  · obtain ⟨rfl,h⟩:=chk_some h
    split at h
    · split at h <;> cases h
    · cases h
  · obtain ⟨rfl,h⟩:=chk_some h
    split at h <;> cases h
  · obtain ⟨rfl,h⟩:=chk_some h
    split at h <;> cases h
  · rename_i i _ _
    obtain ⟨rfl,h⟩:=chk_some h
    split at h
    · rename_i y1 b1 mx r1 na sl hq
      split at h
      · rename_i g
        cases h
        unfold sR at hq
        split at hq
        · rename_i q hc
          split at hq
          · rename_i hs
            cases hq
            refine ⟨i,mx,na,sl,_,hc,rfl,g.2.2,g.2.1,Or.inl ⟨hd,hasStat_mem hs,by simp; omega,by simp⟩⟩
          · cases hq
        · cases hq
      · cases h
    · cases h
  · rename_i i _ _
    obtain ⟨rfl,h⟩:=chk_some h
    split at h
    · split at h
      · split at h <;> cases h
      · cases h
    · split at h
      · rename_i y1 b1 mx r1 na sl hq
        split at h
        · rename_i a rest' hdrop
          split at h
          · rename_i g
            cases h
            unfold nR at hq
            split at hq
            · rename_i q hc
              split at hq
              · rename_i hs
                cases hq
                refine ⟨i,mx,na,sl,_,hc,rfl,g.2.1,g.1,Or.inr ⟨a,_,rfl,by simp; omega,?_,hasIM_mem hs.2.1,Or.inl ⟨hd,hs.1,hs.2.2⟩⟩⟩
                rw [List.reverse_reverse,← hdrop,List.take_append_drop]
              · cases hq
            · cases hq
          · cases h
        · cases h
      · cases h
  · rename_i i _ _
    obtain ⟨rfl,h⟩:=chk_some h
    split at h
    · rename_i pv y1 b1 mx r1 na sl hq
      split at h
      · rename_i a rest' hdrop
        split at h
        · rename_i C vs hH
          split at h
          · rename_i g
            cases h
            unfold vR at hq
            split at hq
            · rename_i q hc
              split at hq
              · rename_i hs
                split at hq
                · rename_i hp; cases hq
                  obtain ⟨ki,hki⟩:=Option.isSome_iff_exists.mp hp.2
                  exact ⟨i,mx,na,sl,_,hc,rfl,g.2.2.1,g.2.1,Or.inr ⟨a,_,rfl,by simp; omega,by rw [List.reverse_reverse,← hdrop,List.take_append_drop],hasIM_mem hs,Or.inr ⟨hd,C,vs,hH,Or.inl ⟨hasPriv_mem hp.1,ki,rInst_mem hki⟩⟩⟩⟩
                · split at hq
                  · rename_i hp; cases hq
                    exact ⟨i,mx,na,sl,_,hc,rfl,g.2.2.1,g.2.1,Or.inr ⟨a,_,rfl,by simp; omega,by rw [List.reverse_reverse,← hdrop,List.take_append_drop],hasIM_mem hs,Or.inr ⟨hd,C,vs,hH,Or.inr ⟨hasDecl_mem hp.1,hasSel_mem hp.2,g.1.resolve_left (by simp)⟩⟩⟩⟩
                  · cases hq
              · cases hq
            · cases hq
          · cases h
        · cases h
      · cases h
    · cases h
  · cases h
theorem act_size {pc':Nat}{ls':List Slot}{st':List Value}{H':AHeap} (h:act ws dn k y bytes ret pc ls st H=some (.inr (.inl (pc',ls',st',H')))):H.length≤H'.length∧tot ws H≤tot ws H'∧ls'.length=ls.length:=by
  obtain ⟨ins,len,hd,⟨g,rfl⟩ | ⟨rfl,g⟩ | ⟨i,sl,a,r,-,-,-,-,-,-,rfl,-,rfl⟩⟩:=act_step h
  · exact ⟨Nat.le_refl _,Nat.le_refl _,xstep_size g⟩
  · have:=hstep_size g; exact ⟨this.1,this.2,rfl⟩
  · exact ⟨Nat.le_refl _,Nat.le_refl _,rfl⟩
end Inv
theorem run_size {ws:Ws}{dn:Dn}{k:Nat}:∀ {n:Nat}{y:MethodName}{bytes:ByteArray}{ret:Option FieldType}{pc:Nat}{ls:List Slot}{st:List Value}{H:AHeap}{v:Option Value}{H':AHeap},run ws dn k n y bytes ret pc ls st H=some (v,H')→H.length≤H'.length∧tot ws H≤tot ws H'
  | 0,_,_,_,_,_,_,_,_,_,h => by cases h
  | n+1,y,bytes,ret,pc,ls,st,H,v,H',h => by
    rw [run] at h
    split at h
    · cases h
    · cases h; exact ⟨Nat.le_refl _,Nat.le_refl _⟩
    · rename_i g
      have h1:=run_size h
      have h2:=act_size g
      exact ⟨Nat.le_trans h2.1 h1.1,Nat.le_trans h2.2.1 h1.2⟩
    · split at h
      · rename_i g
        have h1:=run_size h
        have h2:=run_size g
        exact ⟨Nat.le_trans h2.1 h1.1,Nat.le_trans h2.2 h1.2⟩
      · cases h
section Snd
def Goes (p:Program) (l:Launch) (e:Env) (R:Room) (s:State) (m:MethodId) (args:Array Value) (below:List Frame) (meth:Method) (c:Code) (T:State) (Z:State) (ws:Ws) (k sa n0 cells slots:Nat) (H:AHeap) (g:JFrame) (ret:Option FieldType) (v:Option Value) (H':AHeap):Prop :=
  ∃ T' locs',Stand p l e R s m args below meth c T' locs' (cells+(H'.length - H.length)) (slots+(tot ws H' - tot ws H))∧Sim Z ws k sa n0 H' T'.heap∧Fr n0 locs'∧(ret=none→v=none) ∧
    ∀ fs,(∀ (fj:JFrame) (acts:List Action),fj.method=m→fj.locked=none→fj.entered=[]→(doReturn e (T'.setTop fj) acts (v.map (ren (adr k sa n0)))).1=T'.setFrames fs)→Steps p.tables e below (T.setTop g) (T'.setFrames fs)
variable {p:Program}{l:Launch}{e:Env}{R:Room}{s:State}{m:MethodId}{args:Array Value}{below:List Frame}{meth:Method}{c:Code}{T:State}{locs:List Loc}{cells slots:Nat}
  {Z:State}{a0:Array Value}{ws:Ws}{dn:Dn}{k sa n0:Nat}
theorem Goes.of {T1:State}{H H1 H':AHeap}{g g1:JFrame}{ret:Option FieldType}{v:Option Value} (hst:∀ target,Steps p.tables e below (T1.setTop g1) target→Steps p.tables e below (T.setTop g) target)
    (G:Goes p l e R s m args below meth c T1 Z ws k sa n0 (cells+(H1.length - H.length)) (slots+(tot ws H1 - tot ws H)) H1 g1 ret v H') (m1:H.length≤H1.length∧tot ws H≤tot ws H1) (m2:H1.length≤H'.length∧tot ws H1≤tot ws H') :
    Goes p l e R s m args below meth c T Z ws k sa n0 cells slots H g ret v H':=by
  obtain ⟨T',locs',X',S',N',hv,go⟩:=G
  have e1:cells+(H1.length - H.length)+(H'.length - H1.length)=cells+(H'.length - H.length):=by omega
  have e2:slots+(tot ws H1 - tot ws H)+(tot ws H' - tot ws H1)=slots+(tot ws H' - tot ws H):=by omega
  rw [e1,e2] at X'
  exact ⟨T',locs',X',S',N',hv,fun fs hf => hst _ (go fs hf)⟩
def Snd (Z:State) (ws:Ws) (dn:Dn) (k sa n0 n:Nat):Prop :=
  ∀ (y:MethodName) (bytes:ByteArray) (ret:Option FieldType) (pc:Nat) (ls:List Slot) (st:List Value) (H:AHeap) (v:Option Value) (H':AHeap),run ws dn k n y bytes ret pc ls st H=some (v,H') →
  ∀ (p:Program) (l:Launch) (e:Env) (R:Room) (s:State) (m:MethodId) (args:Array Value) (below:List Frame) (meth:Method) (c:Code) (T:State) (locs:List Loc) (cells slots:Nat),
    Stand p l e R s m args below meth c T locs cells slots→p.tables.exec=Jvm.exec→Z.Warmed39 s.vm→s.vm.findClass y.cls=some m.cls→meth.name=y.name→meth.sig.returnType=ret→c.code=bytes→ls.length=c.maxLocals →
    (∀ f lc,dnOf dn y=some (f,lc)→f≤R.frames∧lc≤R.locals)→Sim Z ws k sa n0 H T.heap→Fr n0 locs→cells+(H'.length - H.length)≤R.cells→slots+(tot ws H' - tot ws H)≤R.slots→T.heap.size=s.heap.size+cells →
    Goes p l e R s m args below meth c T Z ws k sa n0 cells slots H (fr (adr k sa n0) m pc ls st) ret v H'
theorem met_of {n:Nat} (ih:Snd Z ws dn k sa n0 n) (l:Launch) {y:MethodName}{b:ByteArray}{mx f lc:Nat}{r:Option FieldType} (wsx:List Jvm.Cond) (hp:Jvm.plainName y.cls=true) {as:List Value} (he:(ent as).length≤mx) {H H1:AHeap}{v:Option Value}
    (hrun:run ws dn k n y b r 0 (entry as mx) [] H=some (v,H1)) (hdn:∀ f' l',dnOf dn y=some (f',l')→f'≤f∧l'≤lc) {h:Heap} (S:Sim Z ws k sa n0 H h) {rc rs:Nat} (hc:H1.length - H.length≤rc) (hs:tot ws H1 - tot ws H≤rs) :
    MetFree l y (head1 (Jvm.Cond.code y b mx r::wsx) ({ frames:=f,cells:=rc,slots:=rs,locals:=lc }:Room)) (fun a U => a=(as.map (ren (adr k sa n0))).toArray∧Z.Warmed39 U.vm∧U.heap=h) (fun _ _ _ _ _ => True)
      (fun _ U o U' => ∃ w L,o=.returned w∧(w=v.map (ren (adr k sa n0))∧Sim Z ws k sa n0 H1 U'.heap∧Fr n0 L)∧FrameEnd U o U' L (H1.length - H.length) (tot ws H1 - tot ws H)):=by
  refine MetFree.of_bodySF (plainFor_of_name hp) hisR ?_
  intro p e s m args below meth c s₁ Bd hml0 hP hK
  obtain ⟨rfl,hZ,hh⟩:=hP
  have hown:s.vm.findClass y.cls=some m.cls:=findClass_of_methodNamed Bd.named
  have hnm:=(name_of_methodNamed Bd.named Bd.method).1
  have X0:Stand p l e ({ frames:=f,cells:=rc,slots:=rs,locals:=lc }:Room) s m (as.map (ren (adr k sa n0))).toArray below meth c s₁ [] 0 0:=Stand.of_body Bd
  have e0:s₁.heap=h:=by rw [← hh,Bd.state]; rfl
  obtain ⟨T',locs',X',S',N',hv,go⟩:=ih y b r 0 (entry as mx) [] H v H1 hrun p l e _ s m _ below meth c s₁ [] 0 0 X0 Bd.exec hZ hown hnm Bd.returns Bd.bytes (by rw [entry_len he]; exact hml0.symm) hdn (by rw [e0]; exact S) (Fr.nil n0) (by rw [Nat.zero_add]; exact hc) (by rw [Nat.zero_add]; exact hs) (by rw [e0,← hh,Nat.add_zero])
  obtain ⟨fs,hr,hrun',hended,hW,hsame⟩:=X'.leave (v:=v.map (ren (adr k sa n0))) (fun hn => by rw [Bd.returns] at hn; rw [hv hn]; rfl)
  refine ⟨_,_,castTop (entry_eq _ m as mx) (go fs hr),hrun',hended,_,locs',rfl,⟨rfl,S',N'⟩,⟨_,rfl⟩,hW,hsame.mono (Nat.le_of_eq (Nat.zero_add _)) (Nat.le_of_eq (Nat.zero_add _))⟩
set_option maxHeartbeats 2000000 in
theorem snd (hw:∀ d ∈ ws,d.before a0 Z=true):∀ n,Snd Z ws dn k sa n0 n
  | 0 => fun y bytes ret pc ls st H v H' h => by cases h
  | n+1 => fun y bytes ret pc ls st H v H' h p l e R s m args below meth c T locs cells slots X hx hZ hown hnm hret hby hls hF S N hc hl hz0 => by
    have ih:=snd hw n
    rw [run] at h
    split at h
    · cases h
    · rename_i v' ha
      cases h
      have stay:∀ {v:Option Value},(ret=none→v=none)→(∀ fs,(∀ (fj:JFrame) (acts:List Action),fj.method=m→fj.locked=none→fj.entered=[]→(doReturn e (T.setTop fj) acts (v.map (ren (adr k sa n0)))).1=T.setFrames fs)→Steps p.tables e below (T.setTop (fr (adr k sa n0) m pc ls st)) (T.setFrames fs)) →
          Goes p l e R s m args below meth c T Z ws k sa n0 cells slots H (fr (adr k sa n0) m pc ls st) ret v H:=fun hv hg => ⟨T,locs,by rw [Nat.sub_self,Nat.sub_self]; exact X,S,N,hv,hg⟩
      rcases act_ret ha with ⟨z,r,t,hd,rfl,rfl,ht,rfl⟩ | ⟨z,hd,rfl,rfl,rfl⟩ | ⟨hd,rfl,rfl,rfl⟩
      · refine stay (fun h => by cases h) fun fs hf => ?_
        rcases ht with rfl | ht
        · exact retOut X hx hret (w:=.int z) (rest:=r.map (ren (adr k sa n0))) rfl (Or.inl ⟨rfl,Or.inl rfl,z,rfl⟩) (hb hby hd) hf
        · exact retN X hx hret ht (hb hby hd) hf
      · exact stay (fun h => by cases h) fun fs hf => retOut X hx hret (w:=.long z) (rest:=[]) rfl (Or.inr (Or.inl ⟨rfl,rfl,z,rfl⟩)) (hb hby hd) hf
      · exact stay (fun _ => rfl) fun fs hf => X.returnOut hx hret (hb hby hd) hf
    · rename_i pc' ls' st' H1 ha
      have m1:=act_size ha
      have m2:=run_size h
      obtain ⟨ins,len,hd,⟨g,rfl⟩ | ⟨rfl,g⟩ | ⟨i,sl,a,r,rfl,rfl,ho,rfl,hW,rfl,rfl,rfl,rfl⟩⟩:=act_step ha
      · obtain ⟨T',locs',X',S',N',hv,go⟩:=ih y bytes ret pc' ls' st' H1 v H' h p l e R s m args below meth c T locs cells slots X hx hZ hown hnm hret hby (m1.2.2.trans hls) hF S N hc hl hz0
        exact ⟨T',locs',X',S',N',hv,fun fs hf => xstep_sound X.here hx (adr k sa n0) (hb hby hd) g (go fs hf)⟩
      · obtain ⟨T1,locs1,X1,S1,N1,st1⟩:=hstep_sound (ls:=ls') hw X hx hZ hown hnm (hb hby hd) g S N (by dsimp only; omega) (by dsimp only; omega) hz0
        dsimp only at X1 S1 st1
        have z1:=S.1
        have z2:=S1.1
        have z3:=S.2.1
        have G:=ih y bytes ret pc' ls' st' H1 v H' h p l e R s m args below meth c T1 locs1 _ _ X1 hx hZ hown hnm hret hby hls hF S1 N1 (by omega) (by omega) (by omega)
        exact Goes.of st1 G ⟨m1.1,m1.2.1⟩ m2
      · unfold oR at ho
        split at ho
        · rename_i y1 b1 mx1 r1 f1 l1 q1 q2 q3
          split at ho
          · rename_i g
            cases ho
            obtain ⟨rfl,g2,g3,rfl,rfl,g4,g5⟩:=g
            obtain ⟨u1,u2⟩:=hF _ _ q3
            have eb:b1=⟨#[0xb1]⟩:=by cases b1; cases g3; rfl
            subst eb
            obtain ⟨T1,X1,e1,st1⟩:=initO X hx hZ hown (hw _ (rMth_mem q1)) (hw _ (hasIM_mem g2)) (hw _ (rCode_mem q2)) rfl (g:=fr (adr k sa n0) m pc ls' (.ref a::st')) rfl (by simp [hls]) rfl (hb hby hd) (by omega) (W:=l1 - 12) (by show 2 * 0+_≤_; rw [wsum_ren]; omega) (by omega)
            have G:=ih y bytes ret (pc+3) ls' st' H1 v H' h p l e R s m args below meth c T1 locs cells slots X1 hx hZ hown hnm hret hby hls hF (by rw [e1]; exact S) N hc hl (by rw [e1]; exact hz0)
            obtain ⟨T',locs',X',S',N',hv,go⟩:=G
            exact ⟨T',locs',X',S',N',hv,fun fs hf => st1 _ (go fs hf)⟩
          · cases ho
        · cases ho
    · rename_i y' b r en rest ha
      split at h
      · rename_i v1 H1 h1
        have m1:=run_size h1
        have m2:=run_size h
        obtain ⟨i,mx,na,sl,as,hq,rfl,hen,hW,hk⟩:=act_call ha
        obtain ⟨w1,w2,w3,w4,w5,-,f',l',f,lc,sig,d1,d2,d3,d4,d5,d6⟩:=cR_some hq
        obtain ⟨u1,u2⟩:=hF _ _ d2
        have hM:=met_of ih l [] w4 hen h1 (f:=f') (lc:=l') (fun f2 l2 q => by rw [d1] at q; cases q; exact ⟨Nat.le_refl _,Nat.le_refl _⟩) S (Nat.le_refl _) (Nat.le_refl _)
        have hB:=backOf (R:=R) (p:=p) (e:=e) (below:=below) (s:=s) (args:=args) (len:=3) (W:=sl) (rm:=({ frames:=f',cells:=H1.length - H.length,slots:=tot ws H1 - tot ws H,locals:=l' }:Room)) (Q:=fun w h L => w=v1.map (ren (adr k sa n0))∧Sim Z ws k sa n0 H1 h∧Fr n0 L) hM hZ (hw _ w2) (hw _ w3) (by show f'+1≤_; omega) (by show sl+(mx+11)+l'≤_; omega)
        have hsz:(fr (adr k sa n0) m pc ls st).locals.size=c.maxLocals:=by simp [hls]
        have hWW:∀ st':List Value,wsum st'≤sl→2 * (fr (adr k sa n0) m pc ls st).monitorRoom+((st'.map (ren (adr k sa n0))).map fun v => v.category).sum≤sl:=fun st' q => by show 2 * 0+_≤_; rw [wsum_ren]; omega
        have hback:∀ (v':Option Value) (vm₁:Vm) (B:Pt),Stand p l e R s m args below meth c B.U B.locs B.cells B.slots →
            (∃ L,(v'=v1.map (ren (adr k sa n0))∧Sim Z ws k sa n0 H1 B.U.heap∧Fr n0 L)∧B.locs=locs ++ L∧B.cells=cells+(H1.length - H.length)∧B.slots=slots+(tot ws H1 - tot ws H)) →
            (∀ target,Steps p.tables e below (B.U.setTop { fr (adr k sa n0) m pc ls st with pc:=pc+3,stack:=v'.toList ++ rest.map (ren (adr k sa n0)) }) target→Steps p.tables e below (T.setTop (fr (adr k sa n0) m pc ls st)) target) →
            Goes p l e R s m args below meth c T Z ws k sa n0 cells slots H (fr (adr k sa n0) m pc ls st) ret v H':=by
          rintro v' vm₁ ⟨T1,L1,k1,n1⟩ X1 ⟨Lc,⟨rfl,S1,N1⟩,l1,y1,z1⟩ st1
          dsimp only [Pt.U,Pt.locs,Pt.cells,Pt.slots] at X1 l1 y1 z1 st1 S1
          subst l1 y1 z1
          have z1:=S.1
          have z2:=S1.1
          have z3:=S.2.1
          have G:=ih y bytes ret (pc+3) ls (v1.toList ++ rest) H1 v H' h p l e R s m args below meth c T1 _ _ _ X1 hx hZ hown hnm hret hby hls hF S1 (Fr.app N N1) (by omega) (by omega) (by omega)
          refine Goes.of (fun target ht => st1 target ?_) G m1 m2
          have e1:(v1.toList ++ rest).map (ren (adr k sa n0))=(v1.map (ren (adr k sa n0))).toList ++ rest.map (ren (adr k sa n0)):=by cases v1 <;> simp
          rw [← e1]; exact ht
        rcases hk with ⟨hd,ws1,hna,rfl⟩ | ⟨a,as',rfl,hna,rfl,wi,⟨hd,hn,rfl⟩ | ⟨hd,C,vs,hH,hpd⟩⟩
        · obtain ⟨v',vm₁,B,-,X1,P1,st1⟩:=Jvm.LawKit.callS X hx (y:=y') hown (mvT hZ (hw _ w1)) (mvT hZ (hw _ ws1)) (mvT hZ (hw _ w3)) (mvT hZ (hw _ w2)) w5 hB (g:=fr (adr k sa n0) m pc ls (as.reverse ++ rest)) rfl hsz (argsL:=as.map (ren (adr k sa n0))) (rest:=rest.map (ren (adr k sa n0)))
            (fun sg hsg => by rw [d3] at hsg; cases hsg; simp [hna,d4]) (by simp) (hWW rest hW) (hb hby hd) (fun _ _ => ⟨rfl,rfl,by show cells+(H1.length - H.length)≤_; omega,by show slots+(tot ws H1 - tot ws H)≤_; omega⟩)
          exact hback v' vm₁ B X1 P1 st1
        · obtain ⟨v',vm₁,B,-,X1,P1,st1⟩:=X.specialBack hx (y:=y') hn hown (mvT hZ (hw _ w1)) (mvT hZ (hw _ wi)) (mvT hZ (hw _ w2)) w5 hB (g:=fr (adr k sa n0) m pc ls (as'.reverse ++ .ref a::rest)) rfl hsz (Steps.refl _) (a:=adr k sa n0 a) (argsL:=as'.map (ren (adr k sa n0))) (rest:=rest.map (ren (adr k sa n0)))
            (fun sg hsg => by rw [d3] at hsg; cases hsg; simp [hna,d4]) (by simp [ren]) (hWW rest hW) (hb hby hd) (fun _ _ => ⟨rfl,rfl,by show cells+(H1.length - H.length)≤_; omega,by show slots+(tot ws H1 - tot ws H)≤_; omega⟩)
          exact hback v' vm₁ B X1 P1 fun target ht => st1.trans ht
        · have E:=(S.2.2.2.2 a _ hH).1
          rcases hpd with ⟨wp,ki,wki⟩ | ⟨wd,wsel,rfl⟩
          · obtain ⟨cq,hq1,hq2⟩:=E.cell
            have hpa:s.PrivateAt y':=Cond.privateMethod_at (mvP hZ (hw _ wp) (args:=#[]))
            have hsel:(Jvm.Cond.selects y'.cls y' y').before args s=true:=by
              have wz:(Jvm.Cond.instantiable y'.cls ki).before args s=true:=mvT hZ (hw _ wki)
              obtain ⟨c2,k2,i1,i2,-,i4,-⟩:=Cond.instantiable_spec wz
              exact selects_self_of_private i1 i2 (Bool.or_eq_false_iff.mp i4).1 hpa (mvT hZ (hw _ wi)) w5
            obtain ⟨v',vm₁,B,-,X1,P1,st1⟩:=X.privateBack hx (y:=y') hown (mvT hZ (hw _ w1)) (mvT hZ (hw _ wi)) hsel hpa (mvT hZ (hw _ w2)) w5 hB (g:=fr (adr k sa n0) m pc ls (as'.reverse ++ .ref a::rest)) rfl hsz (Steps.refl _) (a:=adr k sa n0 a) hq1 hq2 (argsL:=as'.map (ren (adr k sa n0))) (rest:=rest.map (ren (adr k sa n0)))
              (fun sg hsg => by rw [d3] at hsg; cases hsg; simp [hna,d4]) (by simp [ren]) (hWW rest hW) (hb hby hd) (fun _ _ => ⟨rfl,rfl,by show cells+(H1.length - H.length)≤_; omega,by show slots+(tot ws H1 - tot ws H)≤_; omega⟩)
            exact hback v' vm₁ B X1 P1 fun target ht => st1.trans ht
          · obtain ⟨cq,kq,qa,qb,qc⟩:=isOf hZ rfl E
            obtain ⟨v',vm₁,B,-,X1,P1,st1⟩:=X.virtualBack hx (y:=y') (z:=y') hown (mvT hZ (hw _ w1)) (mvT hZ (hw _ wd)) (notFace_of_selects (args:=#[]) (mvT hZ (hw _ wsel))) (mvT hZ (hw _ wsel)) (mvT hZ (hw _ wi)) w5 hB qa qc (g:=fr (adr k sa n0) m pc ls (as'.reverse ++ .ref a::rest)) rfl hsz (Steps.refl _) (argsL:=as'.map (ren (adr k sa n0))) (rest:=rest.map (ren (adr k sa n0)))
              (fun sg hsg => by rw [d3] at hsg; cases hsg; simp [hna,d4]) (by simp [ren]) (hWW rest hW) (hb hby hd) (fun _ _ => ⟨rfl,rfl,by show cells+(H1.length - H.length)≤_; omega,by show slots+(tot ws H1 - tot ws H)≤_; omega⟩)
            exact hback v' vm₁ B X1 P1 fun target ht => st1.trans ht
      · cases h
end Snd
end Jvm.Own
namespace Jvm.Own
open Sem ClassFile Op Lib Jvm.Stand Jvm.Free Jvm.LawKit Jvm.RoadKit
theorem run_succ {ws:Ws}{dn:Dn}{k:Nat}:∀ {n:Nat}{y:MethodName}{bytes:ByteArray}{ret:Option FieldType}{pc:Nat}{ls:List Slot}{st:List Value}{H:AHeap}{r:Option Value × AHeap},run ws dn k n y bytes ret pc ls st H=some r→run ws dn k (n+1) y bytes ret pc ls st H=some r
  | 0,_,_,_,_,_,_,_,_,h => by cases h
  | n+1,y,bytes,ret,pc,ls,st,H,r,h => by
    rw [run] at h
    rw [run]
    split at h
    · cases h
    · exact h
    · exact run_succ h
    · split at h
      · rename_i v H1 g
        rw [run_succ g]
        exact run_succ h
      · cases h
theorem run_mono {ws:Ws}{dn:Dn}{k n n':Nat}{y:MethodName}{bytes:ByteArray}{ret:Option FieldType}{pc:Nat}{ls:List Slot}{st:List Value}{H:AHeap}{r:Option Value × AHeap} (hn:n≤n') (h:run ws dn k n y bytes ret pc ls st H=some r):run ws dn k n' y bytes ret pc ls st H=some r:=by
  induction hn with
  | refl => exact h
  | step _ ih => exact run_succ ih
def W (ws:Ws) (dn:Dn) (k:Nat) (y:MethodName) (bytes:ByteArray) (ret:Option FieldType) (pc:Nat) (ls:List Slot) (st:List Value) (H:AHeap) (Q:Option Value→AHeap→Prop):Prop :=
  ∃ n v H',run ws dn k n y bytes ret pc ls st H=some (v,H')∧Q v H'
section
variable {ws:Ws}{dn:Dn}{k:Nat}{y:MethodName}{bytes:ByteArray}{ret:Option FieldType}{pc:Nat}{ls:List Slot}{st:List Value}{H:AHeap}{Q:Option Value→AHeap→Prop}
theorem W_step {pc':Nat}{ls':List Slot}{st':List Value}{H':AHeap} (h:act ws dn k y bytes ret pc ls st H=some (.inr (.inl (pc',ls',st',H')))):W ws dn k y bytes ret pc ls st H Q=W ws dn k y bytes ret pc' ls' st' H' Q:=by
  refine propext ⟨fun ⟨n,v,H1,h1,h2⟩ => ?_,fun ⟨n,v,H1,h1,h2⟩ => ⟨n+1,v,H1,by rw [run,h]; exact h1,h2⟩⟩
  cases n with
  | zero => cases h1
  | succ n => rw [run,h] at h1; exact ⟨n,v,H1,h1,h2⟩
theorem W_ret {v:Option Value} (h:act ws dn k y bytes ret pc ls st H=some (.inl v)):W ws dn k y bytes ret pc ls st H Q=Q v H:=by
  refine propext ⟨fun ⟨n,v,H1,h1,h2⟩ => ?_,fun h2 => ⟨1,v,H,by rw [run,h],h2⟩⟩
  cases n with
  | zero => cases h1
  | succ n => rw [run,h] at h1; cases h1; exact h2
theorem W_call {y':MethodName}{b:ByteArray}{r:Option FieldType}{en:List Slot}{rest:List Value} (h:act ws dn k y bytes ret pc ls st H=some (.inr (.inr (y',b,r,en,rest)))) :
    W ws dn k y bytes ret pc ls st H Q=W ws dn k y' b r 0 en [] H (fun v H1 => W ws dn k y bytes ret (pc+3) ls (v.toList ++ rest) H1 Q):=by
  refine propext ⟨fun ⟨n,v,H1,h1,h2⟩ => ?_,fun ⟨n,v,H1,h1,n',v',H',h2,h3⟩ => ⟨max n n'+1,v',H',?_,h3⟩⟩
  · cases n with
    | zero => cases h1
    | succ n =>
      rw [run,h] at h1
      dsimp only at h1
      split at h1
      · rename_i v' H' g; exact ⟨n,v',H',g,n,v,H1,h1,h2⟩
      · cases h1
  · rw [run,h]
    dsimp only
    rw [run_mono (Nat.le_max_left _ _) h1]
    exact run_mono (Nat.le_max_right _ _) h2
theorem W.mono {Q':Option Value→AHeap→Prop} (h:W ws dn k y bytes ret pc ls st H Q) (hq:∀ v H',Q v H'→Q' v H'):W ws dn k y bytes ret pc ls st H Q':=by
  obtain ⟨n,v,H',h1,h2⟩:=h; exact ⟨n,v,H',h1,hq _ _ h2⟩
theorem act_x {ins:Instr}{len pc':Nat}{ls':List Slot}{st':List Value} (hd:decode bytes pc=.ok (ins,len)) (hx:xstep ins len pc ls st=some (pc',ls',st')):act ws dn k y bytes ret pc ls st H=some (.inr (.inl (pc',ls',st',H))):=by
  unfold act; rw [hd]; dsimp only; rw [hx]
theorem act_h {ins:Instr}{len pc':Nat}{st':List Value}{H':AHeap} (hd:decode bytes pc=.ok (ins,len)) (hx:xstep ins len pc ls st=none) (hh:hstep ws k y ins len pc st H=some (pc',st',H')):act ws dn k y bytes ret pc ls st H=some (.inr (.inl (pc',ls,st',H'))):=by
  unfold act; rw [hd]; dsimp only; rw [hx]; dsimp only; rw [hh]
theorem act_c {ins:Instr}{len:Nat} (hd:decode bytes pc=.ok (ins,len)) (hx:xstep ins len pc ls st=none) (hh:hstep ws k y ins len pc st H=none):act ws dn k y bytes ret pc ls st H=cstep ws dn y ret ins len pc ls st H:=by
  unfold act; rw [hd]; dsimp only; rw [hx]; dsimp only; rw [hh]
theorem w_x {ins:Instr}{len pc':Nat}{ls':List Slot}{st':List Value} (hd:decode bytes pc=.ok (ins,len)) (hx:xstep ins len pc ls st=some (pc',ls',st')):W ws dn k y bytes ret pc ls st H Q=W ws dn k y bytes ret pc' ls' st' H Q:=W_step (act_x hd hx)
theorem w_if {cd:ClassFile.Cond}{o:Int}{x:Int32}{t:Nat}{P:Prop} [Decidable P] (hd:decode bytes pc=.ok (.ifCond cd o,3)) (hp:ifCond.holds cd x=decide P) (hj:jmp pc o=some t) :
    W ws dn k y bytes ret pc ls (.int x::st) H Q=if P then W ws dn k y bytes ret t ls st H Q else W ws dn k y bytes ret (pc+3) ls st H Q:=by
  split
  · exact w_x hd (by simp only [xstep,chk,br,hp,hj,if_true]; simp [*])
  · exact w_x hd (by simp only [xstep,chk,br,hp,hj,if_true]; simp [*])
theorem w_icmp {cd:ClassFile.Cond}{o:Int}{x1 x2:Int32}{t:Nat}{P:Prop} [Decidable P] (hd:decode bytes pc=.ok (.if_icmp cd o,3)) (hp:if_icmp.holds cd x1 x2=decide P) (hj:jmp pc o=some t) :
    W ws dn k y bytes ret pc ls (.int x2::.int x1::st) H Q=if P then W ws dn k y bytes ret t ls st H Q else W ws dn k y bytes ret (pc+3) ls st H Q:=by
  split
  · exact w_x hd (by simp only [xstep,chk,br,hp,hj,if_true]; simp [*])
  · exact w_x hd (by simp only [xstep,chk,br,hp,hj,if_true]; simp [*])
theorem w_get {i j:Nat}{a:Nat}{C:String}{vs:List Value}{v:Value} (hd:decode bytes pc=.ok (.getfield i,3)) (hr:gfR ws y.cls i=some (C,j)) (ho:H[a]?=some (.object C,vs)) (hv:vs[j]?=some v) :
    W ws dn k y bytes ret pc ls (.ref a::st) H Q=W ws dn k y bytes ret (pc+3) ls (v::st) H Q :=
  W_step (act_h hd rfl (by simp only [hstep,chk,hGet,hr,ho,hv,if_true,Option.map_some]))
theorem w_put {i j:Nat}{a:Nat}{C:String}{ty:FieldType}{vs:List Value}{v v':Value}{H':AHeap} (hd:decode bytes pc=.ok (.putfield i,3)) (hr:pfR ws y.cls y.name i=some (C,j,ty)) (ho:H[a]?=some (.object C,vs)) (hk:k≤a) (hj:j < vs.length) (hv:putv ty v=some v') (hH:H.set a (.object C,vs.set j v')=H') :
    W ws dn k y bytes ret pc ls (v::.ref a::st) H Q=W ws dn k y bytes ret (pc+3) ls st H' Q :=
  W_step (act_h hd rfl (by simp only [hstep,chk,hPut,hr,ho,hv,if_true,true_and,hk,hj,Option.map_some,hH,and_self]))
theorem w_new {i:Nat}{C:String} (hd:decode bytes pc=.ok (.new i,3)) (hr:hNew ws y.cls i pc H st=some (pc+3,.ref H.length::st,H ++ [(.object C,(olay ws C).map dflt)])) :
    W ws dn k y bytes ret pc ls st H Q=W ws dn k y bytes ret (pc+3) ls (.ref H.length::st) (H ++ [(.object C,(olay ws C).map dflt)]) Q :=
  W_step (act_h hd rfl (by simp only [hstep,chk,if_true]; exact hr))
theorem w_newA {aty:ArrayType}{n:Int32}{ty:FieldType} (hd:decode bytes pc=.ok (.newarray aty,2)) (ht:newarray.typeOf aty=ty) (hr:hasArr ws ty=true) (hn:¬ n < 0) (hb:n.toNatClampNeg * 8≤536870912) :
    W ws dn k y bytes ret pc ls (.int n::st) H Q=W ws dn k y bytes ret (pc+2) ls (.ref H.length::st) (H ++ [(.array ty,List.replicate n.toNatClampNeg (defaultValue ty))]) Q:=by
  subst ht
  exact W_step (act_h hd rfl (by simp only [hstep,chk,hNewA,hr,hn,hb,if_true,not_false_eq_true,and_self]))
def ldOk:Instr→FieldType→Bool
  | .iaload,.int | .caload,.char | .laload,.long | .baload,.byte | .baload,.boolean => true
  | _,_ => false
def stOk:Instr→FieldType→Bool
  | .iastore,.int | .castore,.char | .lastore,.long | .bastore,.byte | .bastore,.boolean => true
  | _,_ => false
theorem w_ald {ins:Instr}{a:Nat}{j:Int32}{ty:FieldType}{vs:List Value}{v:Value} (hd:decode bytes pc=.ok (ins,1)) (hi:ldOk ins ty=true) (ho:H[a]?=some (.array ty,vs)) (hj:¬ j < 0) (hv:vs[j.toNatClampNeg]?=some v) :
    W ws dn k y bytes ret pc ls (.int j::.ref a::st) H Q=W ws dn k y bytes ret (pc+1) ls (v::st) H Q:=by
  unfold ldOk at hi
  split at hi
  all_goals first
    | exact W_step (act_h hd rfl (by simp only [hstep,chk,hLd,okT,okB,ho,hv,hj,if_true,Option.map_some,decide_true,not_false_eq_true,and_self,Bool.or_true,Bool.true_or]))
    | cases hi
theorem w_ast {ins:Instr}{a:Nat}{j:Int32}{ty:FieldType}{vs:List Value}{v v':Value}{H':AHeap} (hd:decode bytes pc=.ok (ins,1)) (hi:stOk ins ty=true) (ho:H[a]?=some (.array ty,vs)) (hk:k≤a) (hj:¬ j < 0) (hl:j.toNatClampNeg < vs.length) (hv:putv ty v=some v') (hH:H.set a (.array ty,vs.set j.toNatClampNeg v')=H') :
    W ws dn k y bytes ret pc ls (v::.int j::.ref a::st) H Q=W ws dn k y bytes ret (pc+1) ls st H' Q:=by
  unfold stOk at hi
  split at hi
  all_goals first
    | exact W_step (act_h hd rfl (by simp only [hstep,chk,hSt,okT,okB,ho,hv,hj,hk,hl,hH,if_true,Option.map_some,decide_true,not_false_eq_true,and_self,Bool.or_true,Bool.true_or]))
    | cases hi
theorem w_len {a:Nat}{ty:FieldType}{vs:List Value} (hd:decode bytes pc=.ok (.arraylength,1)) (ho:H[a]?=some (.array ty,vs)) :
    W ws dn k y bytes ret pc ls (.ref a::st) H Q=W ws dn k y bytes ret (pc+1) ls (.int vs.length.toInt32::st) H Q :=
  W_step (act_h hd rfl (by simp only [hstep,chk,hLen,ho,if_true]))
theorem w_ldc2 {i:Nat}{v:Int64} (hd:decode bytes pc=.ok (.ldc2_w i,3)) (hr:rConL ws y.cls i=some v):W ws dn k y bytes ret pc ls st H Q=W ws dn k y bytes ret (pc+3) ls (.long v::st) H Q :=
  W_step (act_h hd rfl (by simp only [hstep,chk,hr,if_true,Option.map_some]))
theorem w_iret {z:Int32} (hd:decode bytes pc=.ok (.ireturn,1)) (hr:ret=some .int):W ws dn k y bytes ret pc ls (.int z::st) H Q=Q (some (.int z)) H:=by
  subst hr; exact W_ret (by rw [act_c hd rfl rfl]; rfl)
theorem w_iretN {z:Int32}{t:FieldType} (hd:decode bytes pc=.ok (.ireturn,1)) (hr:ret=some t) (ht:t=.int ∨ t=.boolean ∨ t=.byte ∨ t=.char ∨ t=.short):W ws dn k y bytes ret pc ls (.int z::st) H Q=Q (some (.int (nar t z))) H:=by
  subst hr; exact W_ret (by rw [act_c hd rfl rfl]; simp only [cstep,chk,if_true,ht])
theorem w_vret (hd:decode bytes pc=.ok (.return_,1)) (hr:ret=none):W ws dn k y bytes ret pc ls [] H Q=Q none H:=by
  subst hr; exact W_ret (by rw [act_c hd rfl rfl]; rfl)
theorem w_obj {i sl:Nat}{a:Nat} (hd:decode bytes pc=.ok (.invokespecial i,3)) (hr:oR ws dn y i=some sl) (hw:wsum st≤sl):W ws dn k y bytes ret pc ls (.ref a::st) H Q=W ws dn k y bytes ret (pc+3) ls st H Q :=
  W_step (by rw [act_c hd rfl rfl]; simp only [cstep,chk,if_true,hr,hw])
theorem w_stat {i mx na sl:Nat}{y':MethodName}{b:ByteArray}{r:Option FieldType}{as rest:List Value}{en:List Slot} (hd:decode bytes pc=.ok (.invokestatic i,3)) (hr:sR ws dn y i=some (y',b,mx,r,na,sl)) (hn:as.length=na) (hw:wsum rest≤sl) (he:(ent as.reverse).length≤mx) (hen:entry as.reverse mx=en) :
    W ws dn k y bytes ret pc ls (as ++ rest) H Q=W ws dn k y' b r 0 en [] H (fun v H1 => W ws dn k y bytes ret (pc+3) ls (v.toList ++ rest) H1 Q):=by
  subst hn hen
  have e1:(as ++ rest).take as.length=as:=by simp
  have e2:(as ++ rest).drop as.length=rest:=by simp
  exact W_call (by rw [act_c hd rfl rfl]; simp only [cstep,chk,if_true,hr,e1,e2,hw,he,List.length_append,Nat.le_add_right,and_self])
theorem w_spec {i mx na sl a:Nat}{y':MethodName}{b:ByteArray}{r:Option FieldType}{as rest:List Value}{en:List Slot} (hd:decode bytes pc=.ok (.invokespecial i,3)) (h0:oR ws dn y i=none) (hr:nR ws dn y i=some (y',b,mx,r,na,sl)) (hn:as.length=na) (hw:wsum rest≤sl) (he:(ent (.ref a::as.reverse)).length≤mx) (hen:entry (.ref a::as.reverse) mx=en) :
    W ws dn k y bytes ret pc ls (as ++ .ref a::rest) H Q=W ws dn k y' b r 0 en [] H (fun v H1 => W ws dn k y bytes ret (pc+3) ls (v.toList ++ rest) H1 Q):=by
  subst hn hen
  have e1:(as ++ .ref a::rest).take as.length=as:=by simp
  have e2:(as ++ .ref a::rest).drop as.length=.ref a::rest:=by simp
  exact W_call (by rw [act_c hd rfl rfl]; simp only [cstep,chk,if_true,h0,hr,e1,e2,hw,he,List.length_append,Nat.le_add_right,and_self])
theorem w_virt {i mx na sl a:Nat}{pv:Bool}{y':MethodName}{b:ByteArray}{r:Option FieldType}{as rest:List Value}{en:List Slot}{C:String}{vs:List Value} (hd:decode bytes pc=.ok (.invokevirtual i,3)) (hr:vR ws dn y i=some (pv,y',b,mx,r,na,sl)) (ho:H[a]?=some (.object C,vs)) (hC:C=y'.cls) (hn:as.length=na) (hw:wsum rest≤sl) (he:(ent (.ref a::as.reverse)).length≤mx) (hen:entry (.ref a::as.reverse) mx=en) :
    W ws dn k y bytes ret pc ls (as ++ .ref a::rest) H Q=W ws dn k y' b r 0 en [] H (fun v H1 => W ws dn k y bytes ret (pc+3) ls (v.toList ++ rest) H1 Q):=by
  subst hn hen hC
  have e1:(as ++ .ref a::rest).take as.length=as:=by simp
  have e2:(as ++ .ref a::rest).drop as.length=.ref a::rest:=by simp
  exact W_call (by rw [act_c hd rfl rfl]; simp only [cstep,chk,if_true,hr,e1,e2,ho,hw,he,List.length_append,Nat.le_add_right,and_self,or_true])
end
theorem law_of {Z:State}{a0:Array Value}{ws:Ws}{dn:Dn}{k sa n0:Nat} (hw:∀ d ∈ ws,d.before a0 Z=true) (l:Launch) {y:MethodName}{b:ByteArray}{mx f lc rc rs:Nat}{r:Option FieldType} (wsx:List Jvm.Cond) (hp:Jvm.plainName y.cls=true) {as:List Value} (he:(ent as).length≤mx) {H:AHeap}
    (hW:W ws dn k y b r 0 (entry as mx) [] H (fun v H1 => v=some (.int 1)∧H1.length - H.length≤rc∧tot ws H1 - tot ws H≤rs)) (hdn:∀ f' l',dnOf dn y=some (f',l')→f'≤f∧l'≤lc) {h:Heap} (S:Sim Z ws k sa n0 H h) :
    MetFree l y (head1 (Jvm.Cond.code y b mx r::wsx) ({ frames:=f,cells:=rc,slots:=rs,locals:=lc }:Room)) (fun a U => a=(as.map (ren (adr k sa n0))).toArray∧Z.Warmed39 U.vm∧U.heap=h) (fun _ _ _ _ _ => True)
      (fun _ U o U' => ∃ w L,o=.returned w∧(w=some (.int 1)∧Fr n0 L)∧FrameEnd U o U' L rc rs):=by
  obtain ⟨n,v,H1,h1,rfl,h3,h4⟩:=hW
  have M:=met_of (snd hw n) l wsx hp he h1 hdn S h3 h4
  intro p e ha hc hk s m args below hf happ hP hK
  obtain ⟨n',o,g1,g2,g3,w,L,rfl,⟨rfl,-,N⟩,F⟩:=M p e ha hc hk s m args below hf happ hP hK
  exact ⟨n',_,g1,g2,g3,_,L,rfl,⟨rfl,N⟩,F.1,F.2.1,F.2.2.mono h3 h4⟩
theorem Sim.script {Z:State} (ws:Ws) {h:Heap}{a:Addr}{c:Cell}{vs:List Int32} (A:Arr Z h a c .int) (e:c.slots=(vs.map Value.int).toArray):Sim Z ws 1 a h.size [(.array .int,vs.map Value.int)] h:=by
  refine ⟨by simp,Nat.le_refl _,Nat.le_refl _,fun _ => A.lt,fun i o q => ?_⟩
  cases i with
  | zero =>
    cases q
    refine ⟨c,A,e.trans ?_⟩
    rw [List.map_map]; rfl
  | succ i => cases q
end Jvm.Own
namespace Jvm.Own
open Sem ClassFile Op Lib Jvm.Stand Jvm.Free Jvm.LawKit Jvm.RoadKit
def ou {α:Type} (s:Nat→α) (i:Nat) (v:α):Nat→α:=fun j => if j=i then v else s j
theorem ou_a {α:Type} (s:Nat→α) (i:Nat) (v:α) (j:Nat):ou s i v j=if j=i then v else s j:=rfl
def pad (b:Nat) (pre:AHeap):AHeap:=(pre ++ List.replicate b (FieldType.int,[])).take b
theorem pad_len (b:Nat) (pre:AHeap):(pad b pre).length=b:=by simp [pad]
theorem pad_eq {b:Nat}{pre:AHeap} (h:pre.length=b):pad b pre=pre:=by subst h; simp [pad]
theorem pad_0 (pre:AHeap):pad 0 pre=[]:=by simp [pad]
theorem tot_cons (ws:Ws) (o:FieldType × List Value) (r:AHeap):tot ws (o::r)=cost ws o+tot ws r:=by simp [tot]
theorem tot_append (ws:Ws) (a r:AHeap):tot ws (a ++ r)=tot ws a+tot ws r:=by simp [tot]
theorem tot_nil (ws:Ws):tot ws []=0:=rfl
theorem pad_get (b:Nat) (pre r:AHeap) (i:Nat):(pad b pre ++ r)[b+i]?=r[i]?:=by
  rw [List.getElem?_append_right (by rw [pad_len]; omega),pad_len]; congr 1; omega
theorem pad_get0 (b:Nat) (pre r:AHeap):(pad b pre ++ r)[b]?=r[0]?:=pad_get b pre r 0
theorem pad_set (b:Nat) (pre r:AHeap) (i:Nat) (o:FieldType × List Value):(pad b pre ++ r).set (b+i) o=pad b pre ++ r.set i o:=by
  rw [List.set_append_right _ _ (by rw [pad_len]; omega),pad_len]; congr 2; omega
theorem pad_set0 (b:Nat) (pre r:AHeap) (o:FieldType × List Value):(pad b pre ++ r).set b o=pad b pre ++ r.set 0 o:=pad_set b pre r 0 o
theorem rCode_of {ws:Ws}{y:MethodName}{b:ByteArray}{m i:Nat}{r:Option FieldType} (h:ws[i]?=some (.code y b m r)) (h2:(ws.take i).all (fun d => match d with | .code z _ _ _ => !decide (z=y) | _ => true)=true):rCode ws y=some (b,m,r):=by
  have e:ws=ws.take i ++ (.code y b m r::ws.drop (i+1)):=by
    obtain ⟨hi,hg⟩:=List.getElem?_eq_some_iff.mp h
    rw [← hg,← List.drop_eq_getElem_cons hi,List.take_append_drop]
  unfold rCode
  rw [e,List.findSome?_append]
  have e1:(ws.take i).findSome? (fun d => match d with | .code z b m r => if z=y then some (b,m,r) else none | _ => none)=none:=by
    rw [List.findSome?_eq_none_iff]
    intro d hd
    have q:=List.all_eq_true.mp h2 d hd
    split
    · rename_i z b' m' r'
      simp at q
      simp [q]
    · rfl
  rw [e1]
  simp
theorem cR_of {ws:Ws}{dn:Dn}{y y':MethodName}{b:ByteArray}{mx i f' l' f l na sl:Nat}{r:Option FieldType}{sig:MethodDescriptor} (h1:rMth ws y.cls i=some y') (h2:rCode ws y'=some (b,mx,r)) (h3:dnOf dn y'=some (f',l')) (h4:dnOf dn y=some (f,l)) (h5:parseMethodDescriptor y'.desc=some sig)
    (h6:decide (hasInit ws y'.cls=true∧Jvm.plainName y'.cls=true∧y'.cls ≠ "java/lang/invoke/MethodHandle" ∧ y'.cls ≠ "java/lang/invoke/VarHandle" ∧ f'+1≤f∧mx+11+l'≤l)=true) (h7:sig.parameters.length=na) (h8:l - (mx+11+l')=sl):cR ws dn y i=some (y',b,mx,r,na,sl):=by
  subst h7 h8
  unfold cR
  rw [h1]; dsimp only
  rw [h2,h3,h4,h5]; dsimp only
  rw [if_pos (of_decide_eq_true h6)]
theorem sR_of {ws:Ws}{dn:Dn}{y:MethodName}{i:Nat}{q:MethodName × ByteArray × Nat × Option FieldType × Nat × Nat} (h:cR ws dn y i=some q) (hs:hasStat ws q.1=true):sR ws dn y i=some q:=by
  unfold sR; rw [h]; dsimp only; rw [if_pos hs]
theorem nR_of {ws:Ws}{dn:Dn}{y:MethodName}{i:Nat}{q:MethodName × ByteArray × Nat × Option FieldType × Nat × Nat} (h:cR ws dn y i=some q) (h1:q.1.name = "<init>") (h2:hasIM ws q.1=true) (h3:q.2.2.2.1=none):nR ws dn y i=some q:=by
  unfold nR; rw [h]; dsimp only; rw [if_pos ⟨h1,h2,h3⟩]
theorem vR_of {ws:Ws}{dn:Dn}{y:MethodName}{i:Nat}{q:MethodName × ByteArray × Nat × Option FieldType × Nat × Nat} (h:cR ws dn y i=some q) (h1:hasIM ws q.1=true) (h2:decide (hasPriv ws q.1=true∧(rInst ws q.1.cls).isSome=true)=false) (h3:decide (hasDecl ws q.1=true∧hasSel ws q.1=true)=true):vR ws dn y i=some (false,q):=by
  unfold vR; rw [h]; dsimp only; rw [if_pos h1,if_neg (of_decide_eq_false h2),if_pos (of_decide_eq_true h3)]
theorem pR_of {ws:Ws}{dn:Dn}{y:MethodName}{i:Nat}{q:MethodName × ByteArray × Nat × Option FieldType × Nat × Nat} (h:cR ws dn y i=some q) (h1:hasIM ws q.1=true) (h2:decide (hasPriv ws q.1=true∧(rInst ws q.1.cls).isSome=true)=true):vR ws dn y i=some (true,q):=by
  unfold vR; rw [h]; dsimp only; rw [if_pos h1,if_pos (of_decide_eq_true h2)]
def inB {α:Type} (j:Int32) (l:List α):Prop:=¬ j < 0∧j.toNatClampNeg < l.length
def getA (l:List Int32) (j:Int32):Int32:=l.getD j.toNatClampNeg 0
def setA {α:Type} (l:List α) (j:Int32) (v:α):List α:=l.set j.toNatClampNeg v
def c1:Slot→Bool
  | .unset => true
  | .second => false
  | .val v => v.category == 1
theorem i_eq (x y:Int32):if_icmp.holds .eq x y=decide (x=y):=by simp only [if_icmp.holds]; by_cases h:x=y <;> simp [h]
theorem i_ne (x y:Int32):if_icmp.holds .ne x y=!decide (x=y):=by simp only [if_icmp.holds]; by_cases h:x=y <;> simp [h]
theorem i_lt (x y:Int32):if_icmp.holds .lt x y=decide (x < y):=rfl
theorem i_gt (x y:Int32):if_icmp.holds .gt x y=decide (y < x):=rfl
theorem i_ge (x y:Int32):if_icmp.holds .ge x y=!decide (x < y):=by
  show decide (y≤x)=_
  have e1:(y≤x) ↔ ¬ (x < y):=by rw [Int32.le_iff_toInt_le,Int32.lt_iff_toInt_lt]; omega
  by_cases h:x < y
  · have:¬ y≤x:=fun g => e1.mp g h
    simp [h,this]
  · have:=e1.mpr h
    simp [h,this]
theorem i_le (x y:Int32):if_icmp.holds .le x y=!decide (y < x):=i_ge y x
theorem z_eq (x:Int32):ifCond.holds .eq x=decide (x=0):=i_eq x 0
theorem z_ne (x:Int32):ifCond.holds .ne x=!decide (x=0):=i_ne x 0
theorem z_lt (x:Int32):ifCond.holds .lt x=decide (x < 0):=rfl
theorem z_gt (x:Int32):ifCond.holds .gt x=decide (0 < x):=rfl
theorem z_ge (x:Int32):ifCond.holds .ge x=!decide (x < 0):=i_ge x 0
theorem z_le (x:Int32):ifCond.holds .le x=!decide (0 < x):=i_le x 0
theorem nb0:nar .boolean 0=0:=by decide
theorem nb1:nar .boolean 1=1:=by decide
section
variable {ws:Ws}{dn:Dn}{k:Nat}{y:MethodName}{bytes:ByteArray}{ret:Option FieldType}{pc:Nat}{ls:List Slot}{st:List Value}{H:AHeap}{Q:Option Value→AHeap→Prop}
theorem W_stuck (h:act ws dn k y bytes ret pc ls st H=none):W ws dn k y bytes ret pc ls st H Q=False:=by
  refine propext ⟨fun ⟨n,v,H1,h1,h2⟩ => ?_,False.elim⟩
  cases n with
  | zero => cases h1
  | succ n => rw [run,h] at h1; cases h1
theorem stl_c1 {i:Nat}{o:Slot}{v:Value} (ho:ls[i]?=some o) (hc:c1 o=true) (hv:v.category=1):stl ls i v=some (ls.set i (.val v)):=by
  have h:=XS.store1 (l:=ls.toArray) (i:=i) (v:=v) (o:=o) (by simpa using ho) (by
    cases o with
    | unset => exact Or.inl rfl
    | second => cases hc
    | val w => exact Or.inr ⟨w,rfl,by simpa [c1] using hc⟩) hv
  unfold stl
  rw [h]; simp
theorem w_st {ins:Instr}{len i:Nat}{o:Slot}{v:Value}{p:Value→Bool}{nx:Nat}{ls':List Slot} (hd:decode bytes pc=.ok (ins,len)) (hx:xstep ins len pc ls (v::st)=stV p nx i ls (v::st)) (hp:p v=true) (hv:v.category=1) (ho:ls[i]?=some o) (hs:ls.set i (.val v)=ls') (hc:c1 o=true) :
    W ws dn k y bytes ret pc ls (v::st) H Q=W ws dn k y bytes ret nx ls' st H Q:=by
  subst hs
  exact w_x hd (by rw [hx]; simp only [stV,hp,if_true,stl_c1 ho hc hv,Option.map_some])
theorem w_iinc {i:Nat}{c:Int}{x z:Int32}{ls':List Slot} (hd:decode bytes pc=.ok (.iinc i c,3)) (ho:ls[i]?=some (.val (.int x))) (hz:Int32.ofInt c=z) (hs:ls.set i (.val (.int (x+z)))=ls') :
    W ws dn k y bytes ret pc ls st H Q=W ws dn k y bytes ret (pc+3) ls' st H Q:=by
  subst hs hz
  exact w_x hd (by simp only [xstep,chk,if_true,ho,stl_c1 (v:=.int (x+Int32.ofInt c)) ho rfl rfl,Option.map_some])
theorem w_con {ins:Instr}{len nx:Nat}{v v':Value} (hd:decode bytes pc=.ok (ins,len)) (hx:xstep ins len pc ls st=some (nx,ls,v::st)) (hv:v=v'):W ws dn k y bytes ret pc ls st H Q=W ws dn k y bytes ret nx ls (v'::st) H Q:=by
  subst hv; exact w_x hd hx
theorem w_ifN {cd:ClassFile.Cond}{o:Int}{x:Int32}{t:Nat}{P:Prop} [Decidable P] (hd:decode bytes pc=.ok (.ifCond cd o,3)) (hp:ifCond.holds cd x=!decide P) (hj:jmp pc o=some t) :
    W ws dn k y bytes ret pc ls (.int x::st) H Q=if P then W ws dn k y bytes ret (pc+3) ls st H Q else W ws dn k y bytes ret t ls st H Q:=by
  split
  · exact w_x hd (by simp only [xstep,chk,br,hp,hj,if_true]; simp [*])
  · exact w_x hd (by simp only [xstep,chk,br,hp,hj,if_true]; simp [*])
theorem w_icmpN {cd:ClassFile.Cond}{o:Int}{x1 x2:Int32}{t:Nat}{P:Prop} [Decidable P] (hd:decode bytes pc=.ok (.if_icmp cd o,3)) (hp:if_icmp.holds cd x1 x2=!decide P) (hj:jmp pc o=some t) :
    W ws dn k y bytes ret pc ls (.int x2::.int x1::st) H Q=if P then W ws dn k y bytes ret (pc+3) ls st H Q else W ws dn k y bytes ret t ls st H Q:=by
  split
  · exact w_x hd (by simp only [xstep,chk,br,hp,hj,if_true]; simp [*])
  · exact w_x hd (by simp only [xstep,chk,br,hp,hj,if_true]; simp [*])
theorem ld_stuck {ins:Instr}{a:Nat}{j:Int32}{ty:FieldType}{vs:List Value} (hd:decode bytes pc=.ok (ins,1)) (hi:ldOk ins ty=true) (ho:H[a]?=some (.array ty,vs)) (hj:¬ (¬ j < 0∧j.toNatClampNeg < vs.length)):act ws dn k y bytes ret pc ls (.int j::.ref a::st) H=none:=by
  have hv:j < 0 ∨ vs[j.toNatClampNeg]?=none:=by
    by_cases q:j < 0
    · exact Or.inl q
    · exact Or.inr (List.getElem?_eq_none (Nat.le_of_not_lt fun g => hj ⟨q,g⟩))
  unfold ldOk at hi
  split at hi
  all_goals first
    | (rw [act_c hd rfl (by rcases hv with q | q <;> simp [hstep,chk,hLd,okT,okB,ho,q])]; rfl)
    | cases hi
theorem st_stuck {ins:Instr}{a:Nat}{j:Int32}{ty:FieldType}{vs:List Value}{v:Value} (hd:decode bytes pc=.ok (ins,1)) (hi:stOk ins ty=true) (ho:H[a]?=some (.array ty,vs)) (hj:¬ (¬ j < 0∧j.toNatClampNeg < vs.length)):act ws dn k y bytes ret pc ls (v::.int j::.ref a::st) H=none:=by
  have hv:¬ (¬ j < 0∧j.toNatClampNeg < vs.length):=hj
  unfold stOk at hi
  split at hi
  all_goals first
    | (rw [act_c hd rfl (by simp only [hstep,chk,hSt,okT,okB,ho,if_true]; rw [if_neg (fun q => hv q.2.2)])]; rfl)
    | cases hi
theorem w_ild {ins:Instr}{a:Nat}{j:Int32}{ty:FieldType}{l:List Int32} (hd:decode bytes pc=.ok (ins,1)) (hi:ldOk ins ty=true) (ho:H[a]?=some (.array ty,l.map Value.int)) :
    W ws dn k y bytes ret pc ls (.int j::.ref a::st) H Q=(inB j l∧W ws dn k y bytes ret (pc+1) ls (.int (getA l j)::st) H Q):=by
  by_cases h:inB j l
  · rw [w_ald hd hi ho h.1 (v:=.int (getA l j)) (by simp [getA,h.2])]
    simp [h]
  · rw [W_stuck (ld_stuck hd hi ho (by simpa [inB] using h))]
    simp [h]
theorem w_ist {ins:Instr}{a:Nat}{j v v':Int32}{ty:FieldType}{l:List Int32}{H':AHeap} (hd:decode bytes pc=.ok (ins,1)) (hi:stOk ins ty=true) (ho:H[a]?=some (.array ty,l.map Value.int)) (hk:k≤a) (hv:putv ty (.int v)=some (.int v')) (hH:H.set a (.array ty,(setA l j v').map Value.int)=H') :
    W ws dn k y bytes ret pc ls (.int v::.int j::.ref a::st) H Q=(inB j l∧W ws dn k y bytes ret (pc+1) ls st H' Q):=by
  by_cases h:inB j l
  · rw [w_ast (H':=H') hd hi ho hk h.1 (by simpa using h.2) hv (by rw [← hH,setA,List.map_set])]
    simp [h]
  · rw [W_stuck (st_stuck hd hi ho (by simpa [inB] using h))]
    simp [h]
theorem w_div {ins:Instr}{f:Int32→Int32→Int32}{x z:Int32} (hd:decode bytes pc=.ok (ins,1)) (hx:∀ st,xstep ins 1 pc ls st=d2 f (pc+1) ls st) (hh:hstep ws k y ins 1 pc (.int z::.int x::st) H=none) (hc:cstep ws dn y ret ins 1 pc ls (.int z::.int x::st) H=none) :
    W ws dn k y bytes ret pc ls (.int z::.int x::st) H Q=(z ≠ 0∧W ws dn k y bytes ret (pc+1) ls (.int (f x z)::st) H Q):=by
  by_cases h:z=0
  · rw [W_stuck (by rw [act_c hd (by rw [hx]; simp [d2,h]) hh,hc])]; simp [h]
  · rw [w_x (pc':=pc+1) (ls':=ls) (st':=.int (f x z)::st) hd (by rw [hx]; simp only [d2,h,if_false])]; simp [h]
theorem w_iarr {i j p1 p2 p3:Nat}{C:String}{vs:List Value}{r:AHeap}{n:Int32}{v:Value}{aty:ArrayType}{ty at':FieldType}{l0:Slot}{lr:List Slot}{ins:Instr}{len:Nat}{b:Nat} (hl:l0=.val (.ref b)) (hH:H.length=b) (hk:k≤b)
    (d0:decode bytes pc=.ok (.aload_n 0,1)) (e0:pc+1=p1) (dn1:decode bytes p1=.ok (ins,len)) (hx:∀ st,xstep ins len p1 (l0::lr) st=some (p2,l0::lr,v::st)) (hv:v=.int n) (d2':decode bytes p2=.ok (.newarray aty,2)) (ht:newarray.typeOf aty=ty) (hr:hasArr ws ty=true) (hn:¬ n < 0) (hb:n.toNatClampNeg * 8≤536870912) (e3:p2+2=p3)
    (d3:decode bytes p3=.ok (.putfield i,3)) (hp:pfR ws y.cls y.name i=some (C,j,.array at')) (hj:j < vs.length) :
    W ws dn k y bytes ret pc (l0::lr) [] (H ++ (.object C,vs)::r) Q=W ws dn k y bytes ret (p3+3) (l0::lr) [] (H ++ (.object C,vs.set j (.ref (b+(r.length+1))))::(r ++ [(.array ty,List.replicate n.toNatClampNeg (defaultValue ty))])) Q:=by
  subst hl e0 e3 hv hH
  rw [w_x d0 (ls':=.val (.ref H.length)::lr) (st':=[.ref H.length]) (pc':=pc+1) rfl,w_x dn1 (hx _),w_newA d2' ht hr hn hb]
  have e1:(H ++ (FieldType.object C,vs)::r).length=H.length+(r.length+1):=by simp
  rw [e1,w_put d3 hp (vs:=vs) (H':=H ++ (.object C,vs.set j (.ref (H.length+(r.length+1))))::(r ++ [(.array ty,List.replicate n.toNatClampNeg (defaultValue ty))])) (by simp) hk hj rfl (by simp)]
end
end Jvm.Own
namespace Jvm.Own
open Sem ClassFile Op Lib Jvm.Stand Jvm.Free Jvm.LawKit Jvm.RoadKit
theorem getA_rep (n:Nat) (j:Int32):getA (List.replicate n 0) j=0:=by
  simp only [getA,List.getD_eq_getElem?_getD,List.getElem?_replicate]
  split <;> rfl
theorem script_of {s:State}{a:Addr}{c:Cell} (hf:Fit s) (A:Arr s s.heap a c .int) (hl:c.slots.size < 2 ^ 31):∃ vs:List Int32,c.slots=(vs.map Value.int).toArray:=by
  have h:∀ v ∈ c.slots.toList,∃ x:Int32,v=.int x:=fun v hv => by
    obtain ⟨i,hi,e⟩:=List.getElem_of_mem hv
    have hi':i < c.slots.size:=by simpa using hi
    have e1:(Nat.toInt32 i).toNatClampNeg=i:=by simp only [Int32.toNatClampNeg,len_toInt (Nat.lt_trans hi' hl)]; rfl
    obtain ⟨w,h1,h2⟩:=elem_fit hf A (idx_in hi' hl)
    rw [e1] at h1
    have:w=v:=by rw [Array.getElem?_eq_getElem hi'] at h1; rw [← e]; simpa using (Option.some.inj h1).symm
    subst this
    exact fit_I h2 (by simp)
  have g:∀ l:List Value,(∀ v ∈ l,∃ x:Int32,v=.int x)→∃ vs:List Int32,l=vs.map Value.int:=fun l => by
    induction l with
    | nil => exact fun _ => ⟨[],rfl⟩
    | cons v r ih =>
      intro q
      obtain ⟨x,rfl⟩:=q _ (List.mem_cons_self ..)
      obtain ⟨vs,e⟩:=ih fun w hw => q w (List.mem_cons_of_mem _ hw)
      exact ⟨x::vs,by rw [e]; rfl⟩
  obtain ⟨vs,e⟩:=g _ h
  exact ⟨vs,by rw [← e]⟩
end Jvm.Own
namespace Jvm.Own
open Sem ClassFile Op Lib Jvm.Stand Jvm.Free Jvm.LawKit Jvm.RoadKit
theorem toNat_eq (j:Int32):j.toNatClampNeg=j.toInt.toNat:=rfl
theorem lt_i {x y:Int32}:x < y ↔ x.toInt < y.toInt:=Int32.lt_iff_toInt_lt
theorem inB_iff {α:Type}{j:Int32}{l:List α}:inB j l ↔ 0≤j.toInt∧j.toInt < (l.length:Int):=by
  have e0:(0:Int32).toInt=0:=rfl
  unfold inB
  rw [lt_i,toNat_eq,e0]
  omega
theorem setA_len {α:Type} (l:List α) (j:Int32) (v:α):(setA l j v).length=l.length:=List.length_set
theorem getA_set2 (l:List Int32) (i j v:Int32):getA (setA l i v) j=if j.toNatClampNeg=i.toNatClampNeg∧i.toNatClampNeg < l.length then v else getA l j:=by
  simp only [getA,setA,List.getD_eq_getElem?_getD,List.getElem?_set]
  by_cases e:j.toNatClampNeg=i.toNatClampNeg
  · rw [e]
    by_cases q:i.toNatClampNeg < l.length <;> simp [q]
  · simp [e,Ne.symm e]
theorem len_ou {B A:Nat→List Int32}{j:Nat}{l:List Int32} (h:∀ i,(A i).length=(B i).length) (hl:l.length=(B j).length):∀ i,(ou A j l i).length=(B i).length:=fun i => by
  rw [ou_a]
  split
  · rename_i e; rw [e]; exact hl
  · exact h i
end Jvm.Own
namespace Jvm.Own
open Sem ClassFile Op Lib Jvm.Stand Jvm.Free Jvm.LawKit Jvm.RoadKit
theorem ou_same {α:Type} (s:Nat→α) (i:Nat) (v w:α):ou (ou s i v) i w=ou s i w:=by
  funext j
  simp only [ou_a]
  by_cases h:j=i <;> simp [h]
theorem and_bd (x m:Int32) (hm:m.toBitVec.toNat < 2147483648):0≤(x &&& m).toInt∧(x &&& m).toInt≤(m.toBitVec.toNat:Int):=by
  have h:(x &&& m).toBitVec.toNat≤m.toBitVec.toNat:=by
    rw [Int32.toBitVec_and,BitVec.toNat_and]
    exact Nat.and_le_right
  have e:(x &&& m).toInt=((x &&& m).toBitVec.toNat:Int):=BitVec.toInt_eq_toNat_of_lt (by omega)
  rw [e]
  omega
theorem rng {x:Int32}{n:Nat} (h0:0≤x.toInt) (h1:x.toInt < n):∃ k,k < n∧x=Int32.ofNat k:=by
  have e:(x.toInt.toNat:Int)=x.toInt:=Int.toNat_of_nonneg h0
  refine ⟨x.toInt.toNat,by omega,?_⟩
  have e2:Int32.ofNat x.toInt.toNat=Int32.ofInt (x.toInt.toNat:Int):=rfl
  rw [e2,e,Int32.ofInt_toInt]
theorem add_i {a b:Int32} (h:-2147483648≤a.toInt+b.toInt) (h':a.toInt+b.toInt < 2147483648):(a+b).toInt=a.toInt+b.toInt:=by
  rw [Int32.toInt_add]
  have e:((2 ^ 32:Nat):Int)=4294967296:=rfl
  exact Int.bmod_eq_of_le (by rw [e]; omega) (by rw [e]; omega)
theorem sub_i {a b:Int32} (h:-2147483648≤a.toInt - b.toInt) (h':a.toInt - b.toInt < 2147483648):(a - b).toInt=a.toInt - b.toInt:=by
  rw [Int32.toInt_sub]
  have e:((2 ^ 32:Nat):Int)=4294967296:=rfl
  exact Int.bmod_eq_of_le (by rw [e]; omega) (by rw [e]; omega)
theorem i_0:(0:Int32).toInt=0:=rfl
theorem i_1:(1:Int32).toInt=1:=rfl
theorem add1_i {a:Int32} (h:a.toInt < 2147483647):(a+1).toInt=a.toInt+1:=by
  have:=Int32.le_toInt a
  exact add_i (by rw [i_1]; omega) (by rw [i_1]; omega)
theorem nn_i {a:Int32}:¬ a < 0 ↔ 0≤a.toInt:=by rw [lt_i,i_0]; omega
theorem inB_set {α:Type}{l:List α}{i j:Int32}{v:α}:inB j (setA l i v)=inB j l:=by
  simp only [inB,setA_len]
theorem pad_1 (c:FieldType × List Value):pad 1 [c]=[c]:=rfl
def okS (l:Slot):Prop:=l=.unset ∨ ∃ z:Int32,l=.val (.int z)
theorem okS_u:okS .unset:=Or.inl rfl
theorem okS_i (z:Int32):okS (.val (.int z)):=Or.inr ⟨z,rfl⟩
end Jvm.Own
namespace Jvm.Pilot.@@N@@
open Jvm Jvm.ClassFile Sem Op Lib Jvm.Free Jvm.Stand Jvm.LawKit Jvm.RoadKit Bundle Jvm.Own Jvm.Pilot.@@N@@.Jvm.D
/-- frames and words that each method asks -/
def dn:Dn:=[(⟨"AgentExprDbg", "<init>", "(II)V"⟩,1,12),(⟨"AgentExprDbg", "setReg", "(II)Z"⟩,1,15),(⟨"AgentExprDbg", "inRange", "(III)Z"⟩,0,0),(⟨"AgentExprDbg", "setInstr", "(IIII)Z"⟩,3,45),(⟨"AgentExprDbg", "validInstr", "(IIII)Z"⟩,2,29),(⟨"AgentExprDbg", "validSecond", "(II)Z"⟩,1,15),(⟨"AgentExprDbg", "install", "(III)Z"⟩,1,15),(⟨"AgentExprDbg", "addToken", "(II)Z"⟩,1,15),(⟨"AgentExprDbg", "compile", "(I)I"⟩,7,101),(⟨"AgentExprDbg", "compileChecked", "(I)I"⟩,6,88),(⟨"AgentExprDbg", "parseAll", "()Z"⟩,5,72),(⟨"AgentExprDbg", "resetScratch", "()V"⟩,0,0),(⟨"AgentExprDbg", "parseOperand", "(II)Z"⟩,1,14),(⟨"AgentExprDbg", "pushNeed", "(I)Z"⟩,0,0),(⟨"AgentExprDbg", "emit", "(II)Z"⟩,0,0),(⟨"AgentExprDbg", "finishSource", "()Z"⟩,3,44),(⟨"AgentExprDbg", "reduceWhile", "(I)Z"⟩,2,29),(⟨"AgentExprDbg", "closeExpr", "()Z"⟩,0,0),(⟨"AgentExprDbg", "storeAgent", "(I)V"⟩,1,15),(⟨"AgentExprDbg", "parseOperator", "(I)Z"⟩,4,59),(⟨"AgentExprDbg", "isBinary", "(I)Z"⟩,0,0),(⟨"AgentExprDbg", "binaryOperator", "(I)Z"⟩,3,44),(⟨"AgentExprDbg", "precedence", "(I)I"⟩,1,13),(⟨"AgentExprDbg", "pushOp", "(II)Z"⟩,0,0),(⟨"AgentExprDbg", "isUnary", "(I)Z"⟩,0,0),(⟨"AgentExprDbg", "reduceOne", "(II)Z"⟩,1,15),(⟨"AgentExprDbg", "combineNeed", "()Z"⟩,0,0),(⟨"AgentExprDbg", "setMem", "(II)Z"⟩,1,15),(⟨"AgentExprDbg", "slotAt", "(I)I"⟩,0,0),(⟨"AgentExprDbg", "run", "(I)I"⟩,10,155),(⟨"AgentExprDbg", "runLoop", "(I)I"⟩,9,140),(⟨"AgentExprDbg", "oneStep", "()I"⟩,8,125),(⟨"AgentExprDbg", "execute", "(I)V"⟩,1,16),(⟨"AgentExprDbg", "slotInfo", "(II)I"⟩,1,15),(⟨"AgentExprDbg", "getReg", "(I)I"⟩,1,15),(⟨"AgentExprDbg", "uninstall", "(I)Z"⟩,1,15),(⟨"AgentExprDbg", "closeParen", "()Z"⟩,3,44),(⟨"AgentExprDbg", "endOfExpr", "()Z"⟩,3,44),(⟨"AgentExprDbg", "status", "(I)I"⟩,1,13),(⟨"AgentExprDbg", "statusMore", "(I)I"⟩,0,0),(⟨"AgentExprDbg", "hostEval", "(II)I"⟩,6,93),(⟨"AgentExprDbg", "validExpr", "(II)Z"⟩,1,15),(⟨"AgentExprDbg", "evalExpr", "(II)I"⟩,5,75),(⟨"AgentExprDbg", "evalStep", "(III)I"⟩,4,59),(⟨"AgentExprDbg", "push", "(I)V"⟩,0,0),(⟨"AgentExprDbg", "binaryStep", "(I)V"⟩,3,43),(⟨"AgentExprDbg", "pop", "()I"⟩,0,0),(⟨"AgentExprDbg", "applyBinary", "(III)I"⟩,2,28),(⟨"AgentExprDbg", "top", "()I"⟩,0,0),(⟨"AgentExprDbg", "getMem", "(I)I"⟩,1,15),(⟨"AgentExprDbg", "agentHit", "(II)I"⟩,7,110),(⟨"AgentExprDbg", "buildFrame", "(II)V"⟩,6,93),(⟨"AgentExprDbg", "storeFrame", "()Z"⟩,1,15),(⟨"AgentExprDbg", "writePending", "(I)V"⟩,0,0),(⟨"AgentExprDbg", "frame", "(II)I"⟩,1,15),(⟨"AgentExprDbg", "frameValue", "(II)I"⟩,0,0),(⟨"AgentExprDbg", "clearTrace", "()V"⟩,0,0),(⟨"AgentExprDbg", "shortCircuit", "(III)I"⟩,1,13),(⟨"AgentExprDbg", "unaryStep", "(I)V"⟩,2,29),(⟨"AgentExprDbg", "applyUnary", "(II)I"⟩,1,15),(⟨"AgentExprDbg", "setTop", "(I)V"⟩,0,0),(⟨"AgentExprDbg", "compare", "(III)I"⟩,1,13),(⟨"AgentExprDbg", "boolInt", "(Z)I"⟩,0,0),(⟨"AgentExprDbg", "executeData", "(III)V"⟩,0,0),(⟨"AgentExprDbg", "divide", "(III)I"⟩,0,0),(⟨"AgentExprDbgOwnLaw", "cell", "([II)I"⟩,0,0),(⟨"AgentExprDbgOwnLaw", "mod", "(II)I"⟩,0,0),(⟨"AgentExprDbgOwnLaw", "law", "([I)Z"⟩,11,170)]
def objv (b:Nat) (s:Nat→Int32):List Value:=[.ref (b+1),.ref (b+2),.ref (b+3),.ref (b+4),.ref (b+5),.ref (b+6),.ref (b+7),.ref (b+8),.ref (b+9),.ref (b+10),.ref (b+11),.ref (b+12),.ref (b+13),.ref (b+14),.ref (b+15),.ref (b+16),.ref (b+17),.ref (b+18),.ref (b+19),.ref (b+20),.ref (b+21),.ref (b+22),.ref (b+23),.ref (b+24),.ref (b+25),.ref (b+26),.ref (b+27),.ref (b+28),.ref (b+29),.ref (b+30),.ref (b+31),.ref (b+32),.int (s 17),.int (s 18),.int (s 4),.int (s 5),.int (s 6),.int (s 7),.int (s 8),.int (s 9),.int (s 10),.int (s 11),.int (s 12),.int (s 13),.int (s 14),.int (s 3),.int (s 1),.int (s 0),.int (s 2),.int (s 20),.int (s 16),.int (s 15),.int (s 22),.int (s 21),.int (s 23),.int (s 24),.int (s 25),.int (s 26),.int (s 27),.int (s 19)]
def put (b:Nat) (pre:AHeap) (s:Nat→Int32) (A:Nat→List Int32) (post:AHeap):AHeap:=pad b pre ++ ((.object "AgentExprDbg", objv b s)::(.array .int,(A 0).map Value.int)::(.array .int,(A 1).map Value.int)::(.array .int,(A 2).map Value.int)::(.array .int,(A 3).map Value.int)::(.array .int,(A 4).map Value.int)::(.array .int,(A 5).map Value.int)::(.array .int,(A 6).map Value.int)::(.array .int,(A 7).map Value.int)::(.array .int,(A 8).map Value.int)::(.array .int,(A 9).map Value.int)::(.array .int,(A 10).map Value.int)::(.array .int,(A 11).map Value.int)::(.array .int,(A 12).map Value.int)::(.array .int,(A 13).map Value.int)::(.array .int,(A 14).map Value.int)::(.array .int,(A 15).map Value.int)::(.array .int,(A 16).map Value.int)::(.array .int,(A 17).map Value.int)::(.array .int,(A 18).map Value.int)::(.array .int,(A 19).map Value.int)::(.array .int,(A 20).map Value.int)::(.array .int,(A 21).map Value.int)::(.array .int,(A 22).map Value.int)::(.array .int,(A 23).map Value.int)::(.array .int,(A 24).map Value.int)::(.array .int,(A 25).map Value.int)::(.array .int,(A 26).map Value.int)::(.array .int,(A 27).map Value.int)::(.array .int,(A 28).map Value.int)::(.array .int,(A 29).map Value.int)::(.array .int,(A 30).map Value.int)::(.array .int,(A 31).map Value.int)::post)
section Put
variable {b:Nat}{pre:AHeap}{s:Nat→Int32}{A:Nat→List Int32}{post:AHeap}
theorem put_o  : (put b pre s A post)[b]?=some (.object "AgentExprDbg", objv b s):=pad_get0 _ _ _
theorem put_a0  : (put b pre s A post)[b+1]?=some (.array .int,(A 0).map Value.int):=pad_get _ _ _ 1
theorem put_w0  {l:List Int32}:(put b pre s A post).set (b+1) (.array .int,l.map Value.int)=put b pre s (ou A 0 l) post:=pad_set _ _ _ 1 _
theorem put_a1  : (put b pre s A post)[b+2]?=some (.array .int,(A 1).map Value.int):=pad_get _ _ _ 2
theorem put_w1  {l:List Int32}:(put b pre s A post).set (b+2) (.array .int,l.map Value.int)=put b pre s (ou A 1 l) post:=pad_set _ _ _ 2 _
theorem put_a2  : (put b pre s A post)[b+3]?=some (.array .int,(A 2).map Value.int):=pad_get _ _ _ 3
theorem put_w2  {l:List Int32}:(put b pre s A post).set (b+3) (.array .int,l.map Value.int)=put b pre s (ou A 2 l) post:=pad_set _ _ _ 3 _
theorem put_a3  : (put b pre s A post)[b+4]?=some (.array .int,(A 3).map Value.int):=pad_get _ _ _ 4
theorem put_w3  {l:List Int32}:(put b pre s A post).set (b+4) (.array .int,l.map Value.int)=put b pre s (ou A 3 l) post:=pad_set _ _ _ 4 _
theorem put_a4  : (put b pre s A post)[b+5]?=some (.array .int,(A 4).map Value.int):=pad_get _ _ _ 5
theorem put_w4  {l:List Int32}:(put b pre s A post).set (b+5) (.array .int,l.map Value.int)=put b pre s (ou A 4 l) post:=pad_set _ _ _ 5 _
theorem put_a5  : (put b pre s A post)[b+6]?=some (.array .int,(A 5).map Value.int):=pad_get _ _ _ 6
theorem put_w5  {l:List Int32}:(put b pre s A post).set (b+6) (.array .int,l.map Value.int)=put b pre s (ou A 5 l) post:=pad_set _ _ _ 6 _
theorem put_a6  : (put b pre s A post)[b+7]?=some (.array .int,(A 6).map Value.int):=pad_get _ _ _ 7
theorem put_w6  {l:List Int32}:(put b pre s A post).set (b+7) (.array .int,l.map Value.int)=put b pre s (ou A 6 l) post:=pad_set _ _ _ 7 _
theorem put_a7  : (put b pre s A post)[b+8]?=some (.array .int,(A 7).map Value.int):=pad_get _ _ _ 8
theorem put_w7  {l:List Int32}:(put b pre s A post).set (b+8) (.array .int,l.map Value.int)=put b pre s (ou A 7 l) post:=pad_set _ _ _ 8 _
theorem put_a8  : (put b pre s A post)[b+9]?=some (.array .int,(A 8).map Value.int):=pad_get _ _ _ 9
theorem put_w8  {l:List Int32}:(put b pre s A post).set (b+9) (.array .int,l.map Value.int)=put b pre s (ou A 8 l) post:=pad_set _ _ _ 9 _
theorem put_a9  : (put b pre s A post)[b+10]?=some (.array .int,(A 9).map Value.int):=pad_get _ _ _ 10
theorem put_w9  {l:List Int32}:(put b pre s A post).set (b+10) (.array .int,l.map Value.int)=put b pre s (ou A 9 l) post:=pad_set _ _ _ 10 _
theorem put_a10  : (put b pre s A post)[b+11]?=some (.array .int,(A 10).map Value.int):=pad_get _ _ _ 11
theorem put_w10  {l:List Int32}:(put b pre s A post).set (b+11) (.array .int,l.map Value.int)=put b pre s (ou A 10 l) post:=pad_set _ _ _ 11 _
theorem put_a11  : (put b pre s A post)[b+12]?=some (.array .int,(A 11).map Value.int):=pad_get _ _ _ 12
theorem put_w11  {l:List Int32}:(put b pre s A post).set (b+12) (.array .int,l.map Value.int)=put b pre s (ou A 11 l) post:=pad_set _ _ _ 12 _
theorem put_a12  : (put b pre s A post)[b+13]?=some (.array .int,(A 12).map Value.int):=pad_get _ _ _ 13
theorem put_w12  {l:List Int32}:(put b pre s A post).set (b+13) (.array .int,l.map Value.int)=put b pre s (ou A 12 l) post:=pad_set _ _ _ 13 _
theorem put_a13  : (put b pre s A post)[b+14]?=some (.array .int,(A 13).map Value.int):=pad_get _ _ _ 14
theorem put_w13  {l:List Int32}:(put b pre s A post).set (b+14) (.array .int,l.map Value.int)=put b pre s (ou A 13 l) post:=pad_set _ _ _ 14 _
theorem put_a14  : (put b pre s A post)[b+15]?=some (.array .int,(A 14).map Value.int):=pad_get _ _ _ 15
theorem put_w14  {l:List Int32}:(put b pre s A post).set (b+15) (.array .int,l.map Value.int)=put b pre s (ou A 14 l) post:=pad_set _ _ _ 15 _
theorem put_a15  : (put b pre s A post)[b+16]?=some (.array .int,(A 15).map Value.int):=pad_get _ _ _ 16
theorem put_w15  {l:List Int32}:(put b pre s A post).set (b+16) (.array .int,l.map Value.int)=put b pre s (ou A 15 l) post:=pad_set _ _ _ 16 _
theorem put_a16  : (put b pre s A post)[b+17]?=some (.array .int,(A 16).map Value.int):=pad_get _ _ _ 17
theorem put_w16  {l:List Int32}:(put b pre s A post).set (b+17) (.array .int,l.map Value.int)=put b pre s (ou A 16 l) post:=pad_set _ _ _ 17 _
theorem put_a17  : (put b pre s A post)[b+18]?=some (.array .int,(A 17).map Value.int):=pad_get _ _ _ 18
theorem put_w17  {l:List Int32}:(put b pre s A post).set (b+18) (.array .int,l.map Value.int)=put b pre s (ou A 17 l) post:=pad_set _ _ _ 18 _
theorem put_a18  : (put b pre s A post)[b+19]?=some (.array .int,(A 18).map Value.int):=pad_get _ _ _ 19
theorem put_w18  {l:List Int32}:(put b pre s A post).set (b+19) (.array .int,l.map Value.int)=put b pre s (ou A 18 l) post:=pad_set _ _ _ 19 _
theorem put_a19  : (put b pre s A post)[b+20]?=some (.array .int,(A 19).map Value.int):=pad_get _ _ _ 20
theorem put_w19  {l:List Int32}:(put b pre s A post).set (b+20) (.array .int,l.map Value.int)=put b pre s (ou A 19 l) post:=pad_set _ _ _ 20 _
theorem put_a20  : (put b pre s A post)[b+21]?=some (.array .int,(A 20).map Value.int):=pad_get _ _ _ 21
theorem put_w20  {l:List Int32}:(put b pre s A post).set (b+21) (.array .int,l.map Value.int)=put b pre s (ou A 20 l) post:=pad_set _ _ _ 21 _
theorem put_a21  : (put b pre s A post)[b+22]?=some (.array .int,(A 21).map Value.int):=pad_get _ _ _ 22
theorem put_w21  {l:List Int32}:(put b pre s A post).set (b+22) (.array .int,l.map Value.int)=put b pre s (ou A 21 l) post:=pad_set _ _ _ 22 _
theorem put_a22  : (put b pre s A post)[b+23]?=some (.array .int,(A 22).map Value.int):=pad_get _ _ _ 23
theorem put_w22  {l:List Int32}:(put b pre s A post).set (b+23) (.array .int,l.map Value.int)=put b pre s (ou A 22 l) post:=pad_set _ _ _ 23 _
theorem put_a23  : (put b pre s A post)[b+24]?=some (.array .int,(A 23).map Value.int):=pad_get _ _ _ 24
theorem put_w23  {l:List Int32}:(put b pre s A post).set (b+24) (.array .int,l.map Value.int)=put b pre s (ou A 23 l) post:=pad_set _ _ _ 24 _
theorem put_a24  : (put b pre s A post)[b+25]?=some (.array .int,(A 24).map Value.int):=pad_get _ _ _ 25
theorem put_w24  {l:List Int32}:(put b pre s A post).set (b+25) (.array .int,l.map Value.int)=put b pre s (ou A 24 l) post:=pad_set _ _ _ 25 _
theorem put_a25  : (put b pre s A post)[b+26]?=some (.array .int,(A 25).map Value.int):=pad_get _ _ _ 26
theorem put_w25  {l:List Int32}:(put b pre s A post).set (b+26) (.array .int,l.map Value.int)=put b pre s (ou A 25 l) post:=pad_set _ _ _ 26 _
theorem put_a26  : (put b pre s A post)[b+27]?=some (.array .int,(A 26).map Value.int):=pad_get _ _ _ 27
theorem put_w26  {l:List Int32}:(put b pre s A post).set (b+27) (.array .int,l.map Value.int)=put b pre s (ou A 26 l) post:=pad_set _ _ _ 27 _
theorem put_a27  : (put b pre s A post)[b+28]?=some (.array .int,(A 27).map Value.int):=pad_get _ _ _ 28
theorem put_w27  {l:List Int32}:(put b pre s A post).set (b+28) (.array .int,l.map Value.int)=put b pre s (ou A 27 l) post:=pad_set _ _ _ 28 _
theorem put_a28  : (put b pre s A post)[b+29]?=some (.array .int,(A 28).map Value.int):=pad_get _ _ _ 29
theorem put_w28  {l:List Int32}:(put b pre s A post).set (b+29) (.array .int,l.map Value.int)=put b pre s (ou A 28 l) post:=pad_set _ _ _ 29 _
theorem put_a29  : (put b pre s A post)[b+30]?=some (.array .int,(A 29).map Value.int):=pad_get _ _ _ 30
theorem put_w29  {l:List Int32}:(put b pre s A post).set (b+30) (.array .int,l.map Value.int)=put b pre s (ou A 29 l) post:=pad_set _ _ _ 30 _
theorem put_a30  : (put b pre s A post)[b+31]?=some (.array .int,(A 30).map Value.int):=pad_get _ _ _ 31
theorem put_w30  {l:List Int32}:(put b pre s A post).set (b+31) (.array .int,l.map Value.int)=put b pre s (ou A 30 l) post:=pad_set _ _ _ 31 _
theorem put_a31  : (put b pre s A post)[b+32]?=some (.array .int,(A 31).map Value.int):=pad_get _ _ _ 32
theorem put_w31  {l:List Int32}:(put b pre s A post).set (b+32) (.array .int,l.map Value.int)=put b pre s (ou A 31 l) post:=pad_set _ _ _ 32 _
theorem put_s17  {v:Int32}:(put b pre s A post).set b (.object "AgentExprDbg", (objv b s).set 32 (.int v))=put b pre (ou s 17 v) A post:=pad_set0 _ _ _ _
theorem put_s18  {v:Int32}:(put b pre s A post).set b (.object "AgentExprDbg", (objv b s).set 33 (.int v))=put b pre (ou s 18 v) A post:=pad_set0 _ _ _ _
theorem put_s4  {v:Int32}:(put b pre s A post).set b (.object "AgentExprDbg", (objv b s).set 34 (.int v))=put b pre (ou s 4 v) A post:=pad_set0 _ _ _ _
theorem put_s5  {v:Int32}:(put b pre s A post).set b (.object "AgentExprDbg", (objv b s).set 35 (.int v))=put b pre (ou s 5 v) A post:=pad_set0 _ _ _ _
theorem put_s6  {v:Int32}:(put b pre s A post).set b (.object "AgentExprDbg", (objv b s).set 36 (.int v))=put b pre (ou s 6 v) A post:=pad_set0 _ _ _ _
theorem put_s7  {v:Int32}:(put b pre s A post).set b (.object "AgentExprDbg", (objv b s).set 37 (.int v))=put b pre (ou s 7 v) A post:=pad_set0 _ _ _ _
theorem put_s8  {v:Int32}:(put b pre s A post).set b (.object "AgentExprDbg", (objv b s).set 38 (.int v))=put b pre (ou s 8 v) A post:=pad_set0 _ _ _ _
theorem put_s9  {v:Int32}:(put b pre s A post).set b (.object "AgentExprDbg", (objv b s).set 39 (.int v))=put b pre (ou s 9 v) A post:=pad_set0 _ _ _ _
theorem put_s10  {v:Int32}:(put b pre s A post).set b (.object "AgentExprDbg", (objv b s).set 40 (.int v))=put b pre (ou s 10 v) A post:=pad_set0 _ _ _ _
theorem put_s11  {v:Int32}:(put b pre s A post).set b (.object "AgentExprDbg", (objv b s).set 41 (.int v))=put b pre (ou s 11 v) A post:=pad_set0 _ _ _ _
theorem put_s12  {v:Int32}:(put b pre s A post).set b (.object "AgentExprDbg", (objv b s).set 42 (.int v))=put b pre (ou s 12 v) A post:=pad_set0 _ _ _ _
theorem put_s13  {v:Int32}:(put b pre s A post).set b (.object "AgentExprDbg", (objv b s).set 43 (.int v))=put b pre (ou s 13 v) A post:=pad_set0 _ _ _ _
theorem put_s14  {v:Int32}:(put b pre s A post).set b (.object "AgentExprDbg", (objv b s).set 44 (.int v))=put b pre (ou s 14 v) A post:=pad_set0 _ _ _ _
theorem put_s3  {v:Int32}:(put b pre s A post).set b (.object "AgentExprDbg", (objv b s).set 45 (.int v))=put b pre (ou s 3 v) A post:=pad_set0 _ _ _ _
theorem put_s1  {v:Int32}:(put b pre s A post).set b (.object "AgentExprDbg", (objv b s).set 46 (.int v))=put b pre (ou s 1 v) A post:=pad_set0 _ _ _ _
theorem put_s0  {v:Int32}:(put b pre s A post).set b (.object "AgentExprDbg", (objv b s).set 47 (.int v))=put b pre (ou s 0 v) A post:=pad_set0 _ _ _ _
theorem put_s2  {v:Int32}:(put b pre s A post).set b (.object "AgentExprDbg", (objv b s).set 48 (.int v))=put b pre (ou s 2 v) A post:=pad_set0 _ _ _ _
theorem put_s20  {v:Int32}:(put b pre s A post).set b (.object "AgentExprDbg", (objv b s).set 49 (.int v))=put b pre (ou s 20 v) A post:=pad_set0 _ _ _ _
theorem put_s16  {v:Int32}:(put b pre s A post).set b (.object "AgentExprDbg", (objv b s).set 50 (.int v))=put b pre (ou s 16 v) A post:=pad_set0 _ _ _ _
theorem put_s15  {v:Int32}:(put b pre s A post).set b (.object "AgentExprDbg", (objv b s).set 51 (.int v))=put b pre (ou s 15 v) A post:=pad_set0 _ _ _ _
theorem put_s22  {v:Int32}:(put b pre s A post).set b (.object "AgentExprDbg", (objv b s).set 52 (.int v))=put b pre (ou s 22 v) A post:=pad_set0 _ _ _ _
theorem put_s21  {v:Int32}:(put b pre s A post).set b (.object "AgentExprDbg", (objv b s).set 53 (.int v))=put b pre (ou s 21 v) A post:=pad_set0 _ _ _ _
theorem put_s23  {v:Int32}:(put b pre s A post).set b (.object "AgentExprDbg", (objv b s).set 54 (.int v))=put b pre (ou s 23 v) A post:=pad_set0 _ _ _ _
theorem put_s24  {v:Int32}:(put b pre s A post).set b (.object "AgentExprDbg", (objv b s).set 55 (.int v))=put b pre (ou s 24 v) A post:=pad_set0 _ _ _ _
theorem put_s25  {v:Int32}:(put b pre s A post).set b (.object "AgentExprDbg", (objv b s).set 56 (.int v))=put b pre (ou s 25 v) A post:=pad_set0 _ _ _ _
theorem put_s26  {v:Int32}:(put b pre s A post).set b (.object "AgentExprDbg", (objv b s).set 57 (.int v))=put b pre (ou s 26 v) A post:=pad_set0 _ _ _ _
theorem put_s27  {v:Int32}:(put b pre s A post).set b (.object "AgentExprDbg", (objv b s).set 58 (.int v))=put b pre (ou s 27 v) A post:=pad_set0 _ _ _ _
theorem put_s19  {v:Int32}:(put b pre s A post).set b (.object "AgentExprDbg", (objv b s).set 59 (.int v))=put b pre (ou s 19 v) A post:=pad_set0 _ _ _ _
theorem put_len  : (put b pre s A post).length=b+33+post.length:=by rw [put,List.length_append,pad_len]; simp only [List.length_cons]; omega
theorem inst0:rInst tables_1 "AgentExprDbg" = some 60:=by decide +kernel
theorem put_tot  : tot tables_1 (put b pre s A post)=tot tables_1 (pad b pre)+(60+((A 0).length+((A 1).length+((A 2).length+((A 3).length+((A 4).length+((A 5).length+((A 6).length+((A 7).length+((A 8).length+((A 9).length+((A 10).length+((A 11).length+((A 12).length+((A 13).length+((A 14).length+((A 15).length+((A 16).length+((A 17).length+((A 18).length+((A 19).length+((A 20).length+((A 21).length+((A 22).length+((A 23).length+((A 24).length+((A 25).length+((A 26).length+((A 27).length+((A 28).length+((A 29).length+((A 30).length+((A 31).length+tot tables_1 post))))))))))))))))))))))))))))))))):=by rw [put,tot_append]; simp only [tot_cons,cost,List.length_map,inst0,Option.getD_some]
end Put
def D0:List Value:=[.null,.null,.null,.null,.null,.null,.null,.null,.null,.null,.null,.null,.null,.null,.null,.null,.null,.null,.null,.null,.null,.null,.null,.null,.null,.null,.null,.null,.null,.null,.null,.null,.int 0,.int 0,.int 0,.int 0,.int 0,.int 0,.int 0,.int 0,.int 0,.int 0,.int 0,.int 0,.int 0,.int 0,.int 0,.int 0,.int 0,.int 0,.int 0,.int 0,.int 0,.int 0,.int 0,.int 0,.int 0,.int 0,.int 0,.int 0]
theorem lay0:(olay tables_1 "AgentExprDbg").map dflt=D0:=by decide +kernel
abbrev y0:MethodName:=⟨"AgentExprDbg", "<init>", "(II)V"⟩
abbrev kb0:ByteArray:=prog_1_method_1_code
def M0:=W tables_1 dn 1 y0 prog_1_method_1_code none
abbrev y1:MethodName:=⟨"AgentExprDbg", "setReg", "(II)Z"⟩
abbrev kb1:ByteArray:=prog_1_method_5_code
def M1:=W tables_1 dn 1 y1 prog_1_method_5_code (some .boolean)
abbrev y2:MethodName:=⟨"AgentExprDbg", "inRange", "(III)Z"⟩
abbrev kb2:ByteArray:=prog_1_method_64_code
def M2:=W tables_1 dn 1 y2 prog_1_method_64_code (some .boolean)
abbrev y3:MethodName:=⟨"AgentExprDbg", "setInstr", "(IIII)Z"⟩
abbrev kb3:ByteArray:=prog_1_method_2_code
def M3:=W tables_1 dn 1 y3 prog_1_method_2_code (some .boolean)
abbrev y4:MethodName:=⟨"AgentExprDbg", "validInstr", "(IIII)Z"⟩
abbrev kb4:ByteArray:=prog_1_method_3_code
def M4:=W tables_1 dn 1 y4 prog_1_method_3_code (some .boolean)
abbrev y5:MethodName:=⟨"AgentExprDbg", "validSecond", "(II)Z"⟩
abbrev kb5:ByteArray:=prog_1_method_4_code
def M5:=W tables_1 dn 1 y5 prog_1_method_4_code (some .boolean)
abbrev y6:MethodName:=⟨"AgentExprDbg", "install", "(III)Z"⟩
abbrev kb6:ByteArray:=prog_1_method_31_code
def M6:=W tables_1 dn 1 y6 prog_1_method_31_code (some .boolean)
abbrev y7:MethodName:=⟨"AgentExprDbg", "addToken", "(II)Z"⟩
abbrev kb7:ByteArray:=prog_1_method_9_code
def M7:=W tables_1 dn 1 y7 prog_1_method_9_code (some .boolean)
abbrev y8:MethodName:=⟨"AgentExprDbg", "compile", "(I)I"⟩
abbrev kb8:ByteArray:=prog_1_method_10_code
def M8:=W tables_1 dn 1 y8 prog_1_method_10_code (some .int)
abbrev y9:MethodName:=⟨"AgentExprDbg", "compileChecked", "(I)I"⟩
abbrev kb9:ByteArray:=prog_1_method_11_code
def M9:=W tables_1 dn 1 y9 prog_1_method_11_code (some .int)
abbrev y10:MethodName:=⟨"AgentExprDbg", "parseAll", "()Z"⟩
abbrev kb10:ByteArray:=prog_1_method_12_code
def M10:=W tables_1 dn 1 y10 prog_1_method_12_code (some .boolean)
abbrev y11:MethodName:=⟨"AgentExprDbg", "resetScratch", "()V"⟩
abbrev kb11:ByteArray:=prog_1_method_13_code
def M11:=W tables_1 dn 1 y11 prog_1_method_13_code none
abbrev y12:MethodName:=⟨"AgentExprDbg", "parseOperand", "(II)Z"⟩
abbrev kb12:ByteArray:=prog_1_method_14_code
def M12:=W tables_1 dn 1 y12 prog_1_method_14_code (some .boolean)
abbrev y13:MethodName:=⟨"AgentExprDbg", "pushNeed", "(I)Z"⟩
abbrev kb13:ByteArray:=prog_1_method_24_code
def M13:=W tables_1 dn 1 y13 prog_1_method_24_code (some .boolean)
abbrev y14:MethodName:=⟨"AgentExprDbg", "emit", "(II)Z"⟩
abbrev kb14:ByteArray:=prog_1_method_26_code
def M14:=W tables_1 dn 1 y14 prog_1_method_26_code (some .boolean)
abbrev y15:MethodName:=⟨"AgentExprDbg", "finishSource", "()Z"⟩
abbrev kb15:ByteArray:=prog_1_method_22_code
def M15:=W tables_1 dn 1 y15 prog_1_method_22_code (some .boolean)
abbrev y16:MethodName:=⟨"AgentExprDbg", "reduceWhile", "(I)Z"⟩
abbrev kb16:ByteArray:=prog_1_method_17_code
def M16:=W tables_1 dn 1 y16 prog_1_method_17_code (some .boolean)
abbrev y17:MethodName:=⟨"AgentExprDbg", "closeExpr", "()Z"⟩
abbrev kb17:ByteArray:=prog_1_method_21_code
def M17:=W tables_1 dn 1 y17 prog_1_method_21_code (some .boolean)
abbrev y18:MethodName:=⟨"AgentExprDbg", "storeAgent", "(I)V"⟩
abbrev kb18:ByteArray:=prog_1_method_30_code
def M18:=W tables_1 dn 1 y18 prog_1_method_30_code none
abbrev y19:MethodName:=⟨"AgentExprDbg", "parseOperator", "(I)Z"⟩
abbrev kb19:ByteArray:=prog_1_method_15_code
def M19:=W tables_1 dn 1 y19 prog_1_method_15_code (some .boolean)
abbrev y20:MethodName:=⟨"AgentExprDbg", "isBinary", "(I)Z"⟩
abbrev kb20:ByteArray:=prog_1_method_29_code
def M20:=W tables_1 dn 1 y20 prog_1_method_29_code (some .boolean)
abbrev y21:MethodName:=⟨"AgentExprDbg", "binaryOperator", "(I)Z"⟩
abbrev kb21:ByteArray:=prog_1_method_16_code
def M21:=W tables_1 dn 1 y21 prog_1_method_16_code (some .boolean)
abbrev y22:MethodName:=⟨"AgentExprDbg", "precedence", "(I)I"⟩
abbrev kb22:ByteArray:=prog_1_method_27_code
def M22:=W tables_1 dn 1 y22 prog_1_method_27_code (some .int)
abbrev y23:MethodName:=⟨"AgentExprDbg", "pushOp", "(II)Z"⟩
abbrev kb23:ByteArray:=prog_1_method_25_code
def M23:=W tables_1 dn 1 y23 prog_1_method_25_code (some .boolean)
abbrev y24:MethodName:=⟨"AgentExprDbg", "isUnary", "(I)Z"⟩
abbrev kb24:ByteArray:=prog_1_method_28_code
def M24:=W tables_1 dn 1 y24 prog_1_method_28_code (some .boolean)
abbrev y25:MethodName:=⟨"AgentExprDbg", "reduceOne", "(II)Z"⟩
abbrev kb25:ByteArray:=prog_1_method_18_code
def M25:=W tables_1 dn 1 y25 prog_1_method_18_code (some .boolean)
abbrev y26:MethodName:=⟨"AgentExprDbg", "combineNeed", "()Z"⟩
abbrev kb26:ByteArray:=prog_1_method_23_code
def M26:=W tables_1 dn 1 y26 prog_1_method_23_code (some .boolean)
abbrev y27:MethodName:=⟨"AgentExprDbg", "setMem", "(II)Z"⟩
abbrev kb27:ByteArray:=prog_1_method_6_code
def M27:=W tables_1 dn 1 y27 prog_1_method_6_code (some .boolean)
abbrev y28:MethodName:=⟨"AgentExprDbg", "slotAt", "(I)I"⟩
abbrev kb28:ByteArray:=prog_1_method_33_code
def M28:=W tables_1 dn 1 y28 prog_1_method_33_code (some .int)
abbrev y29:MethodName:=⟨"AgentExprDbg", "run", "(I)I"⟩
abbrev kb29:ByteArray:=prog_1_method_34_code
def M29:=W tables_1 dn 1 y29 prog_1_method_34_code (some .int)
abbrev y30:MethodName:=⟨"AgentExprDbg", "runLoop", "(I)I"⟩
abbrev kb30:ByteArray:=prog_1_method_35_code
def M30:=W tables_1 dn 1 y30 prog_1_method_35_code (some .int)
abbrev y31:MethodName:=⟨"AgentExprDbg", "oneStep", "()I"⟩
abbrev kb31:ByteArray:=prog_1_method_36_code
def M31:=W tables_1 dn 1 y31 prog_1_method_36_code (some .int)
abbrev y32:MethodName:=⟨"AgentExprDbg", "execute", "(I)V"⟩
abbrev kb32:ByteArray:=prog_1_method_37_code
def M32:=W tables_1 dn 1 y32 prog_1_method_37_code none
abbrev y33:MethodName:=⟨"AgentExprDbg", "slotInfo", "(II)I"⟩
abbrev kb33:ByteArray:=prog_1_method_60_code
def M33:=W tables_1 dn 1 y33 prog_1_method_60_code (some .int)
abbrev y34:MethodName:=⟨"AgentExprDbg", "getReg", "(I)I"⟩
abbrev kb34:ByteArray:=prog_1_method_7_code
def M34:=W tables_1 dn 1 y34 prog_1_method_7_code (some .int)
abbrev y35:MethodName:=⟨"AgentExprDbg", "uninstall", "(I)Z"⟩
abbrev kb35:ByteArray:=prog_1_method_32_code
def M35:=W tables_1 dn 1 y35 prog_1_method_32_code (some .boolean)
abbrev y36:MethodName:=⟨"AgentExprDbg", "closeParen", "()Z"⟩
abbrev kb36:ByteArray:=prog_1_method_19_code
def M36:=W tables_1 dn 1 y36 prog_1_method_19_code (some .boolean)
abbrev y37:MethodName:=⟨"AgentExprDbg", "endOfExpr", "()Z"⟩
abbrev kb37:ByteArray:=prog_1_method_20_code
def M37:=W tables_1 dn 1 y37 prog_1_method_20_code (some .boolean)
abbrev y38:MethodName:=⟨"AgentExprDbg", "status", "(I)I"⟩
abbrev kb38:ByteArray:=prog_1_method_58_code
def M38:=W tables_1 dn 1 y38 prog_1_method_58_code (some .int)
abbrev y39:MethodName:=⟨"AgentExprDbg", "statusMore", "(I)I"⟩
abbrev kb39:ByteArray:=prog_1_method_59_code
def M39:=W tables_1 dn 1 y39 prog_1_method_59_code (some .int)
abbrev y40:MethodName:=⟨"AgentExprDbg", "hostEval", "(II)I"⟩
abbrev kb40:ByteArray:=prog_1_method_43_code
def M40:=W tables_1 dn 1 y40 prog_1_method_43_code (some .int)
abbrev y41:MethodName:=⟨"AgentExprDbg", "validExpr", "(II)Z"⟩
abbrev kb41:ByteArray:=prog_1_method_44_code
def M41:=W tables_1 dn 1 y41 prog_1_method_44_code (some .boolean)
abbrev y42:MethodName:=⟨"AgentExprDbg", "evalExpr", "(II)I"⟩
abbrev kb42:ByteArray:=prog_1_method_45_code
def M42:=W tables_1 dn 1 y42 prog_1_method_45_code (some .int)
abbrev y43:MethodName:=⟨"AgentExprDbg", "evalStep", "(III)I"⟩
abbrev kb43:ByteArray:=prog_1_method_46_code
def M43:=W tables_1 dn 1 y43 prog_1_method_46_code (some .int)
abbrev y44:MethodName:=⟨"AgentExprDbg", "push", "(I)V"⟩
abbrev kb44:ByteArray:=prog_1_method_54_code
def M44:=W tables_1 dn 1 y44 prog_1_method_54_code none
abbrev y45:MethodName:=⟨"AgentExprDbg", "binaryStep", "(I)V"⟩
abbrev kb45:ByteArray:=prog_1_method_49_code
def M45:=W tables_1 dn 1 y45 prog_1_method_49_code none
abbrev y46:MethodName:=⟨"AgentExprDbg", "pop", "()I"⟩
abbrev kb46:ByteArray:=prog_1_method_55_code
def M46:=W tables_1 dn 1 y46 prog_1_method_55_code (some .int)
abbrev y47:MethodName:=⟨"AgentExprDbg", "applyBinary", "(III)I"⟩
abbrev kb47:ByteArray:=prog_1_method_51_code
def M47:=W tables_1 dn 1 y47 prog_1_method_51_code (some .int)
abbrev y48:MethodName:=⟨"AgentExprDbg", "top", "()I"⟩
abbrev kb48:ByteArray:=prog_1_method_56_code
def M48:=W tables_1 dn 1 y48 prog_1_method_56_code (some .int)
abbrev y49:MethodName:=⟨"AgentExprDbg", "getMem", "(I)I"⟩
abbrev kb49:ByteArray:=prog_1_method_8_code
def M49:=W tables_1 dn 1 y49 prog_1_method_8_code (some .int)
abbrev y50:MethodName:=⟨"AgentExprDbg", "agentHit", "(II)I"⟩
abbrev kb50:ByteArray:=prog_1_method_39_code
def M50:=W tables_1 dn 1 y50 prog_1_method_39_code (some .int)
abbrev y51:MethodName:=⟨"AgentExprDbg", "buildFrame", "(II)V"⟩
abbrev kb51:ByteArray:=prog_1_method_40_code
def M51:=W tables_1 dn 1 y51 prog_1_method_40_code none
abbrev y52:MethodName:=⟨"AgentExprDbg", "storeFrame", "()Z"⟩
abbrev kb52:ByteArray:=prog_1_method_41_code
def M52:=W tables_1 dn 1 y52 prog_1_method_41_code (some .boolean)
abbrev y53:MethodName:=⟨"AgentExprDbg", "writePending", "(I)V"⟩
abbrev kb53:ByteArray:=prog_1_method_42_code
def M53:=W tables_1 dn 1 y53 prog_1_method_42_code none
abbrev y54:MethodName:=⟨"AgentExprDbg", "frame", "(II)I"⟩
abbrev kb54:ByteArray:=prog_1_method_61_code
def M54:=W tables_1 dn 1 y54 prog_1_method_61_code (some .int)
abbrev y55:MethodName:=⟨"AgentExprDbg", "frameValue", "(II)I"⟩
abbrev kb55:ByteArray:=prog_1_method_62_code
def M55:=W tables_1 dn 1 y55 prog_1_method_62_code (some .int)
abbrev y56:MethodName:=⟨"AgentExprDbg", "clearTrace", "()V"⟩
abbrev kb56:ByteArray:=prog_1_method_63_code
def M56:=W tables_1 dn 1 y56 prog_1_method_63_code none
abbrev y57:MethodName:=⟨"AgentExprDbg", "shortCircuit", "(III)I"⟩
abbrev kb57:ByteArray:=prog_1_method_47_code
def M57:=W tables_1 dn 1 y57 prog_1_method_47_code (some .int)
abbrev y58:MethodName:=⟨"AgentExprDbg", "unaryStep", "(I)V"⟩
abbrev kb58:ByteArray:=prog_1_method_48_code
def M58:=W tables_1 dn 1 y58 prog_1_method_48_code none
abbrev y59:MethodName:=⟨"AgentExprDbg", "applyUnary", "(II)I"⟩
abbrev kb59:ByteArray:=prog_1_method_50_code
def M59:=W tables_1 dn 1 y59 prog_1_method_50_code (some .int)
abbrev y60:MethodName:=⟨"AgentExprDbg", "setTop", "(I)V"⟩
abbrev kb60:ByteArray:=prog_1_method_57_code
def M60:=W tables_1 dn 1 y60 prog_1_method_57_code none
abbrev y61:MethodName:=⟨"AgentExprDbg", "compare", "(III)I"⟩
abbrev kb61:ByteArray:=prog_1_method_53_code
def M61:=W tables_1 dn 1 y61 prog_1_method_53_code (some .int)
abbrev y62:MethodName:=⟨"AgentExprDbg", "boolInt", "(Z)I"⟩
abbrev kb62:ByteArray:=prog_1_method_65_code
def M62:=W tables_1 dn 1 y62 prog_1_method_65_code (some .int)
abbrev y63:MethodName:=⟨"AgentExprDbg", "executeData", "(III)V"⟩
abbrev kb63:ByteArray:=prog_1_method_38_code
def M63:=W tables_1 dn 1 y63 prog_1_method_38_code none
abbrev y64:MethodName:=⟨"AgentExprDbg", "divide", "(III)I"⟩
abbrev kb64:ByteArray:=prog_1_method_52_code
def M64:=W tables_1 dn 1 y64 prog_1_method_52_code (some .int)
abbrev y65:MethodName:=⟨"AgentExprDbgOwnLaw", "cell", "([II)I"⟩
abbrev kb65:ByteArray:=method_2_code
def M65:=W tables_1 dn 1 y65 method_2_code (some .int)
abbrev y66:MethodName:=⟨"AgentExprDbgOwnLaw", "mod", "(II)I"⟩
abbrev kb66:ByteArray:=method_3_code
def M66:=W tables_1 dn 1 y66 method_3_code (some .int)
abbrev y67:MethodName:=⟨"AgentExprDbgOwnLaw", "law", "([I)Z"⟩
abbrev kb67:ByteArray:=code
def M67:=W tables_1 dn 1 y67 code (some .boolean)
theorem dn_0:dnOf dn y0=some (1,12):=by decide +kernel
theorem rc_0:rCode tables_1 y0=some (prog_1_method_1_code,5,none):=rCode_of (i:=9) rfl (by decide +kernel)
theorem dn_1:dnOf dn y1=some (1,15):=by decide +kernel
theorem rc_1:rCode tables_1 y1=some (prog_1_method_5_code,3,some .boolean):=rCode_of (i:=95) rfl (by decide +kernel)
theorem dn_2:dnOf dn y2=some (0,0):=by decide +kernel
theorem rc_2:rCode tables_1 y2=some (prog_1_method_64_code,4,some .boolean):=rCode_of (i:=99) rfl (by decide +kernel)
theorem dn_3:dnOf dn y3=some (3,45):=by decide +kernel
theorem rc_3:rCode tables_1 y3=some (prog_1_method_2_code,5,some .boolean):=rCode_of (i:=104) rfl (by decide +kernel)
theorem dn_4:dnOf dn y4=some (2,29):=by decide +kernel
theorem rc_4:rCode tables_1 y4=some (prog_1_method_3_code,5,some .boolean):=rCode_of (i:=108) rfl (by decide +kernel)
theorem dn_5:dnOf dn y5=some (1,15):=by decide +kernel
theorem rc_5:rCode tables_1 y5=some (prog_1_method_4_code,3,some .boolean):=rCode_of (i:=112) rfl (by decide +kernel)
theorem dn_6:dnOf dn y6=some (1,15):=by decide +kernel
theorem rc_6:rCode tables_1 y6=some (prog_1_method_31_code,5,some .boolean):=rCode_of (i:=117) rfl (by decide +kernel)
theorem dn_7:dnOf dn y7=some (1,15):=by decide +kernel
theorem rc_7:rCode tables_1 y7=some (prog_1_method_9_code,3,some .boolean):=rCode_of (i:=122) rfl (by decide +kernel)
theorem dn_8:dnOf dn y8=some (7,101):=by decide +kernel
theorem rc_8:rCode tables_1 y8=some (prog_1_method_10_code,3,some .int):=rCode_of (i:=129) rfl (by decide +kernel)
theorem dn_9:dnOf dn y9=some (6,88):=by decide +kernel
theorem rc_9:rCode tables_1 y9=some (prog_1_method_11_code,2,some .int):=rCode_of (i:=133) rfl (by decide +kernel)
theorem dn_10:dnOf dn y10=some (5,72):=by decide +kernel
theorem rc_10:rCode tables_1 y10=some (prog_1_method_12_code,5,some .boolean):=rCode_of (i:=137) rfl (by decide +kernel)
theorem dn_11:dnOf dn y11=some (0,0):=by decide +kernel
theorem rc_11:rCode tables_1 y11=some (prog_1_method_13_code,1,none):=rCode_of (i:=141) rfl (by decide +kernel)
theorem dn_12:dnOf dn y12=some (1,14):=by decide +kernel
theorem rc_12:rCode tables_1 y12=some (prog_1_method_14_code,3,some .boolean):=rCode_of (i:=159) rfl (by decide +kernel)
theorem dn_13:dnOf dn y13=some (0,0):=by decide +kernel
theorem rc_13:rCode tables_1 y13=some (prog_1_method_24_code,2,some .boolean):=rCode_of (i:=163) rfl (by decide +kernel)
theorem dn_14:dnOf dn y14=some (0,0):=by decide +kernel
theorem rc_14:rCode tables_1 y14=some (prog_1_method_26_code,3,some .boolean):=rCode_of (i:=167) rfl (by decide +kernel)
theorem dn_15:dnOf dn y15=some (3,44):=by decide +kernel
theorem rc_15:rCode tables_1 y15=some (prog_1_method_22_code,1,some .boolean):=rCode_of (i:=171) rfl (by decide +kernel)
theorem dn_16:dnOf dn y16=some (2,29):=by decide +kernel
theorem rc_16:rCode tables_1 y16=some (prog_1_method_17_code,4,some .boolean):=rCode_of (i:=175) rfl (by decide +kernel)
theorem dn_17:dnOf dn y17=some (0,0):=by decide +kernel
theorem rc_17:rCode tables_1 y17=some (prog_1_method_21_code,2,some .boolean):=rCode_of (i:=179) rfl (by decide +kernel)
theorem dn_18:dnOf dn y18=some (1,15):=by decide +kernel
theorem rc_18:rCode tables_1 y18=some (prog_1_method_30_code,5,none):=rCode_of (i:=183) rfl (by decide +kernel)
theorem dn_19:dnOf dn y19=some (4,59):=by decide +kernel
theorem rc_19:rCode tables_1 y19=some (prog_1_method_15_code,2,some .boolean):=rCode_of (i:=187) rfl (by decide +kernel)
theorem dn_20:dnOf dn y20=some (0,0):=by decide +kernel
theorem rc_20:rCode tables_1 y20=some (prog_1_method_29_code,2,some .boolean):=rCode_of (i:=191) rfl (by decide +kernel)
theorem dn_21:dnOf dn y21=some (3,44):=by decide +kernel
theorem rc_21:rCode tables_1 y21=some (prog_1_method_16_code,4,some .boolean):=rCode_of (i:=195) rfl (by decide +kernel)
theorem dn_22:dnOf dn y22=some (1,13):=by decide +kernel
theorem rc_22:rCode tables_1 y22=some (prog_1_method_27_code,2,some .int):=rCode_of (i:=199) rfl (by decide +kernel)
theorem dn_23:dnOf dn y23=some (0,0):=by decide +kernel
theorem rc_23:rCode tables_1 y23=some (prog_1_method_25_code,3,some .boolean):=rCode_of (i:=203) rfl (by decide +kernel)
theorem dn_24:dnOf dn y24=some (0,0):=by decide +kernel
theorem rc_24:rCode tables_1 y24=some (prog_1_method_28_code,2,some .boolean):=rCode_of (i:=207) rfl (by decide +kernel)
theorem dn_25:dnOf dn y25=some (1,15):=by decide +kernel
theorem rc_25:rCode tables_1 y25=some (prog_1_method_18_code,3,some .boolean):=rCode_of (i:=211) rfl (by decide +kernel)
theorem dn_26:dnOf dn y26=some (0,0):=by decide +kernel
theorem rc_26:rCode tables_1 y26=some (prog_1_method_23_code,4,some .boolean):=rCode_of (i:=215) rfl (by decide +kernel)
theorem dn_27:dnOf dn y27=some (1,15):=by decide +kernel
theorem rc_27:rCode tables_1 y27=some (prog_1_method_6_code,3,some .boolean):=rCode_of (i:=220) rfl (by decide +kernel)
theorem dn_28:dnOf dn y28=some (0,0):=by decide +kernel
theorem rc_28:rCode tables_1 y28=some (prog_1_method_33_code,3,some .int):=rCode_of (i:=224) rfl (by decide +kernel)
theorem dn_29:dnOf dn y29=some (10,155):=by decide +kernel
theorem rc_29:rCode tables_1 y29=some (prog_1_method_34_code,4,some .int):=rCode_of (i:=229) rfl (by decide +kernel)
theorem dn_30:dnOf dn y30=some (9,140):=by decide +kernel
theorem rc_30:rCode tables_1 y30=some (prog_1_method_35_code,4,some .int):=rCode_of (i:=237) rfl (by decide +kernel)
theorem dn_31:dnOf dn y31=some (8,125):=by decide +kernel
theorem rc_31:rCode tables_1 y31=some (prog_1_method_36_code,4,some .int):=rCode_of (i:=241) rfl (by decide +kernel)
theorem dn_32:dnOf dn y32=some (1,16):=by decide +kernel
theorem rc_32:rCode tables_1 y32=some (prog_1_method_37_code,6,none):=rCode_of (i:=249) rfl (by decide +kernel)
theorem dn_33:dnOf dn y33=some (1,15):=by decide +kernel
theorem rc_33:rCode tables_1 y33=some (prog_1_method_60_code,4,some .int):=rCode_of (i:=254) rfl (by decide +kernel)
theorem dn_34:dnOf dn y34=some (1,15):=by decide +kernel
theorem rc_34:rCode tables_1 y34=some (prog_1_method_7_code,2,some .int):=rCode_of (i:=259) rfl (by decide +kernel)
theorem dn_35:dnOf dn y35=some (1,15):=by decide +kernel
theorem rc_35:rCode tables_1 y35=some (prog_1_method_32_code,2,some .boolean):=rCode_of (i:=264) rfl (by decide +kernel)
theorem dn_36:dnOf dn y36=some (3,44):=by decide +kernel
theorem rc_36:rCode tables_1 y36=some (prog_1_method_19_code,1,some .boolean):=rCode_of (i:=268) rfl (by decide +kernel)
theorem dn_37:dnOf dn y37=some (3,44):=by decide +kernel
theorem rc_37:rCode tables_1 y37=some (prog_1_method_20_code,1,some .boolean):=rCode_of (i:=272) rfl (by decide +kernel)
theorem dn_38:dnOf dn y38=some (1,13):=by decide +kernel
theorem rc_38:rCode tables_1 y38=some (prog_1_method_58_code,2,some .int):=rCode_of (i:=277) rfl (by decide +kernel)
theorem dn_39:dnOf dn y39=some (0,0):=by decide +kernel
theorem rc_39:rCode tables_1 y39=some (prog_1_method_59_code,2,some .int):=rCode_of (i:=281) rfl (by decide +kernel)
theorem dn_40:dnOf dn y40=some (6,93):=by decide +kernel
theorem rc_40:rCode tables_1 y40=some (prog_1_method_43_code,4,some .int):=rCode_of (i:=288) rfl (by decide +kernel)
theorem dn_41:dnOf dn y41=some (1,15):=by decide +kernel
theorem rc_41:rCode tables_1 y41=some (prog_1_method_44_code,3,some .boolean):=rCode_of (i:=292) rfl (by decide +kernel)
theorem dn_42:dnOf dn y42=some (5,75):=by decide +kernel
theorem rc_42:rCode tables_1 y42=some (prog_1_method_45_code,7,some .int):=rCode_of (i:=296) rfl (by decide +kernel)
theorem dn_43:dnOf dn y43=some (4,59):=by decide +kernel
theorem rc_43:rCode tables_1 y43=some (prog_1_method_46_code,5,some .int):=rCode_of (i:=304) rfl (by decide +kernel)
theorem dn_44:dnOf dn y44=some (0,0):=by decide +kernel
theorem rc_44:rCode tables_1 y44=some (prog_1_method_54_code,2,none):=rCode_of (i:=308) rfl (by decide +kernel)
theorem dn_45:dnOf dn y45=some (3,43):=by decide +kernel
theorem rc_45:rCode tables_1 y45=some (prog_1_method_49_code,5,none):=rCode_of (i:=312) rfl (by decide +kernel)
theorem dn_46:dnOf dn y46=some (0,0):=by decide +kernel
theorem rc_46:rCode tables_1 y46=some (prog_1_method_55_code,1,some .int):=rCode_of (i:=316) rfl (by decide +kernel)
theorem dn_47:dnOf dn y47=some (2,28):=by decide +kernel
theorem rc_47:rCode tables_1 y47=some (prog_1_method_51_code,4,some .int):=rCode_of (i:=320) rfl (by decide +kernel)
theorem dn_48:dnOf dn y48=some (0,0):=by decide +kernel
theorem rc_48:rCode tables_1 y48=some (prog_1_method_56_code,1,some .int):=rCode_of (i:=324) rfl (by decide +kernel)
theorem dn_49:dnOf dn y49=some (1,15):=by decide +kernel
theorem rc_49:rCode tables_1 y49=some (prog_1_method_8_code,2,some .int):=rCode_of (i:=334) rfl (by decide +kernel)
theorem dn_50:dnOf dn y50=some (7,110):=by decide +kernel
theorem rc_50:rCode tables_1 y50=some (prog_1_method_39_code,4,some .int):=rCode_of (i:=338) rfl (by decide +kernel)
theorem dn_51:dnOf dn y51=some (6,93):=by decide +kernel
theorem rc_51:rCode tables_1 y51=some (prog_1_method_40_code,6,none):=rCode_of (i:=342) rfl (by decide +kernel)
theorem dn_52:dnOf dn y52=some (1,15):=by decide +kernel
theorem rc_52:rCode tables_1 y52=some (prog_1_method_41_code,1,some .boolean):=rCode_of (i:=356) rfl (by decide +kernel)
theorem dn_53:dnOf dn y53=some (0,0):=by decide +kernel
theorem rc_53:rCode tables_1 y53=some (prog_1_method_42_code,4,none):=rCode_of (i:=362) rfl (by decide +kernel)
theorem dn_54:dnOf dn y54=some (1,15):=by decide +kernel
theorem rc_54:rCode tables_1 y54=some (prog_1_method_61_code,4,some .int):=rCode_of (i:=367) rfl (by decide +kernel)
theorem dn_55:dnOf dn y55=some (0,0):=by decide +kernel
theorem rc_55:rCode tables_1 y55=some (prog_1_method_62_code,4,some .int):=rCode_of (i:=371) rfl (by decide +kernel)
theorem dn_56:dnOf dn y56=some (0,0):=by decide +kernel
theorem rc_56:rCode tables_1 y56=some (prog_1_method_63_code,1,none):=rCode_of (i:=376) rfl (by decide +kernel)
theorem dn_57:dnOf dn y57=some (1,13):=by decide +kernel
theorem rc_57:rCode tables_1 y57=some (prog_1_method_47_code,5,some .int):=rCode_of (i:=380) rfl (by decide +kernel)
theorem dn_58:dnOf dn y58=some (2,29):=by decide +kernel
theorem rc_58:rCode tables_1 y58=some (prog_1_method_48_code,4,none):=rCode_of (i:=384) rfl (by decide +kernel)
theorem dn_59:dnOf dn y59=some (1,15):=by decide +kernel
theorem rc_59:rCode tables_1 y59=some (prog_1_method_50_code,3,some .int):=rCode_of (i:=388) rfl (by decide +kernel)
theorem dn_60:dnOf dn y60=some (0,0):=by decide +kernel
theorem rc_60:rCode tables_1 y60=some (prog_1_method_57_code,2,none):=rCode_of (i:=392) rfl (by decide +kernel)
theorem dn_61:dnOf dn y61=some (1,13):=by decide +kernel
theorem rc_61:rCode tables_1 y61=some (prog_1_method_53_code,4,some .int):=rCode_of (i:=396) rfl (by decide +kernel)
theorem dn_62:dnOf dn y62=some (0,0):=by decide +kernel
theorem rc_62:rCode tables_1 y62=some (prog_1_method_65_code,2,some .int):=rCode_of (i:=400) rfl (by decide +kernel)
theorem dn_63:dnOf dn y63=some (0,0):=by decide +kernel
theorem rc_63:rCode tables_1 y63=some (prog_1_method_38_code,5,none):=rCode_of (i:=404) rfl (by decide +kernel)
theorem dn_64:dnOf dn y64=some (0,0):=by decide +kernel
theorem rc_64:rCode tables_1 y64=some (prog_1_method_52_code,4,some .int):=rCode_of (i:=408) rfl (by decide +kernel)
theorem dn_65:dnOf dn y65=some (0,0):=by decide +kernel
theorem rc_65:rCode tables_1 y65=some (method_2_code,2,some .int):=rCode_of (i:=6) rfl (by decide +kernel)
theorem dn_66:dnOf dn y66=some (0,0):=by decide +kernel
theorem rc_66:rCode tables_1 y66=some (method_3_code,3,some .int):=rCode_of (i:=90) rfl (by decide +kernel)
theorem dn_67:dnOf dn y67=some (11,170):=by decide +kernel
theorem gf_7:gfR tables_1 "AgentExprDbg" 7=some ("AgentExprDbg", 0):=by decide +kernel
theorem gf_13:gfR tables_1 "AgentExprDbg" 13=some ("AgentExprDbg", 1):=by decide +kernel
theorem gf_16:gfR tables_1 "AgentExprDbg" 16=some ("AgentExprDbg", 2):=by decide +kernel
theorem gf_19:gfR tables_1 "AgentExprDbg" 19=some ("AgentExprDbg", 3):=by decide +kernel
theorem gf_22:gfR tables_1 "AgentExprDbg" 22=some ("AgentExprDbg", 4):=by decide +kernel
theorem gf_25:gfR tables_1 "AgentExprDbg" 25=some ("AgentExprDbg", 5):=by decide +kernel
theorem gf_28:gfR tables_1 "AgentExprDbg" 28=some ("AgentExprDbg", 6):=by decide +kernel
theorem gf_31:gfR tables_1 "AgentExprDbg" 31=some ("AgentExprDbg", 7):=by decide +kernel
theorem gf_34:gfR tables_1 "AgentExprDbg" 34=some ("AgentExprDbg", 8):=by decide +kernel
theorem gf_37:gfR tables_1 "AgentExprDbg" 37=some ("AgentExprDbg", 9):=by decide +kernel
theorem gf_40:gfR tables_1 "AgentExprDbg" 40=some ("AgentExprDbg", 10):=by decide +kernel
theorem gf_43:gfR tables_1 "AgentExprDbg" 43=some ("AgentExprDbg", 11):=by decide +kernel
theorem gf_46:gfR tables_1 "AgentExprDbg" 46=some ("AgentExprDbg", 12):=by decide +kernel
theorem gf_49:gfR tables_1 "AgentExprDbg" 49=some ("AgentExprDbg", 13):=by decide +kernel
theorem gf_52:gfR tables_1 "AgentExprDbg" 52=some ("AgentExprDbg", 14):=by decide +kernel
theorem gf_55:gfR tables_1 "AgentExprDbg" 55=some ("AgentExprDbg", 15):=by decide +kernel
theorem gf_58:gfR tables_1 "AgentExprDbg" 58=some ("AgentExprDbg", 16):=by decide +kernel
theorem gf_61:gfR tables_1 "AgentExprDbg" 61=some ("AgentExprDbg", 17):=by decide +kernel
theorem gf_64:gfR tables_1 "AgentExprDbg" 64=some ("AgentExprDbg", 18):=by decide +kernel
theorem gf_67:gfR tables_1 "AgentExprDbg" 67=some ("AgentExprDbg", 19):=by decide +kernel
theorem gf_70:gfR tables_1 "AgentExprDbg" 70=some ("AgentExprDbg", 20):=by decide +kernel
theorem gf_73:gfR tables_1 "AgentExprDbg" 73=some ("AgentExprDbg", 21):=by decide +kernel
theorem gf_76:gfR tables_1 "AgentExprDbg" 76=some ("AgentExprDbg", 22):=by decide +kernel
theorem gf_79:gfR tables_1 "AgentExprDbg" 79=some ("AgentExprDbg", 23):=by decide +kernel
theorem gf_82:gfR tables_1 "AgentExprDbg" 82=some ("AgentExprDbg", 24):=by decide +kernel
theorem gf_85:gfR tables_1 "AgentExprDbg" 85=some ("AgentExprDbg", 25):=by decide +kernel
theorem gf_88:gfR tables_1 "AgentExprDbg" 88=some ("AgentExprDbg", 26):=by decide +kernel
theorem gf_91:gfR tables_1 "AgentExprDbg" 91=some ("AgentExprDbg", 27):=by decide +kernel
theorem gf_94:gfR tables_1 "AgentExprDbg" 94=some ("AgentExprDbg", 28):=by decide +kernel
theorem gf_97:gfR tables_1 "AgentExprDbg" 97=some ("AgentExprDbg", 29):=by decide +kernel
theorem gf_100:gfR tables_1 "AgentExprDbg" 100=some ("AgentExprDbg", 30):=by decide +kernel
theorem gf_103:gfR tables_1 "AgentExprDbg" 103=some ("AgentExprDbg", 31):=by decide +kernel
theorem gf_106:gfR tables_1 "AgentExprDbg" 106=some ("AgentExprDbg", 32):=by decide +kernel
theorem gf_110:gfR tables_1 "AgentExprDbg" 110=some ("AgentExprDbg", 33):=by decide +kernel
theorem gf_113:gfR tables_1 "AgentExprDbg" 113=some ("AgentExprDbg", 34):=by decide +kernel
theorem gf_116:gfR tables_1 "AgentExprDbg" 116=some ("AgentExprDbg", 35):=by decide +kernel
theorem gf_119:gfR tables_1 "AgentExprDbg" 119=some ("AgentExprDbg", 36):=by decide +kernel
theorem gf_134:gfR tables_1 "AgentExprDbg" 134=some ("AgentExprDbg", 47):=by decide +kernel
theorem gf_137:gfR tables_1 "AgentExprDbg" 137=some ("AgentExprDbg", 46):=by decide +kernel
theorem gf_141:gfR tables_1 "AgentExprDbg" 141=some ("AgentExprDbg", 48):=by decide +kernel
theorem gf_144:gfR tables_1 "AgentExprDbg" 144=some ("AgentExprDbg", 37):=by decide +kernel
theorem gf_155:gfR tables_1 "AgentExprDbg" 155=some ("AgentExprDbg", 39):=by decide +kernel
theorem gf_158:gfR tables_1 "AgentExprDbg" 158=some ("AgentExprDbg", 41):=by decide +kernel
theorem gf_168:gfR tables_1 "AgentExprDbg" 168=some ("AgentExprDbg", 42):=by decide +kernel
theorem gf_181:gfR tables_1 "AgentExprDbg" 181=some ("AgentExprDbg", 38):=by decide +kernel
theorem gf_184:gfR tables_1 "AgentExprDbg" 184=some ("AgentExprDbg", 40):=by decide +kernel
theorem gf_187:gfR tables_1 "AgentExprDbg" 187=some ("AgentExprDbg", 43):=by decide +kernel
theorem gf_190:gfR tables_1 "AgentExprDbg" 190=some ("AgentExprDbg", 44):=by decide +kernel
theorem gf_235:gfR tables_1 "AgentExprDbg" 235=some ("AgentExprDbg", 45):=by decide +kernel
theorem gf_259:gfR tables_1 "AgentExprDbg" 259=some ("AgentExprDbg", 50):=by decide +kernel
theorem gf_269:gfR tables_1 "AgentExprDbg" 269=some ("AgentExprDbg", 52):=by decide +kernel
theorem gf_272:gfR tables_1 "AgentExprDbg" 272=some ("AgentExprDbg", 54):=by decide +kernel
theorem gf_275:gfR tables_1 "AgentExprDbg" 275=some ("AgentExprDbg", 55):=by decide +kernel
theorem gf_278:gfR tables_1 "AgentExprDbg" 278=some ("AgentExprDbg", 56):=by decide +kernel
theorem gf_281:gfR tables_1 "AgentExprDbg" 281=some ("AgentExprDbg", 57):=by decide +kernel
theorem gf_284:gfR tables_1 "AgentExprDbg" 284=some ("AgentExprDbg", 58):=by decide +kernel
theorem gf_287:gfR tables_1 "AgentExprDbg" 287=some ("AgentExprDbg", 49):=by decide +kernel
theorem gf_290:gfR tables_1 "AgentExprDbg" 290=some ("AgentExprDbg", 59):=by decide +kernel
theorem gf_296:gfR tables_1 "AgentExprDbg" 296=some ("AgentExprDbg", 53):=by decide +kernel
theorem gf_302:gfR tables_1 "AgentExprDbg" 302=some ("AgentExprDbg", 51):=by decide +kernel
theorem dc {c:ByteArray}{pc:Nat} (x:Instr × Nat) (h:decode c pc=.ok x:=by decide +kernel):decode c pc=.ok x:=h
theorem w_ki {ws:Ws}{dn:Dn}{k:Nat}{y:MethodName}{bytes:ByteArray}{ret:Option FieldType}{pc:Nat}{ls:List Slot}{st:List Value}{H:AHeap}{Q:Option Value→AHeap→Prop}{ins:Instr}{len nx:Nat}{v:Value} (n:Int32) (hd:decode bytes pc=.ok (ins,len)) (hx:xstep ins len pc ls st=some (nx,ls,v::st)) (hv:v=.int n:=by decide):W ws dn k y bytes ret pc ls st H Q=W ws dn k y bytes ret nx ls (.int n::st) H Q:=w_con hd hx hv
theorem w_kl {ws:Ws}{dn:Dn}{k:Nat}{y:MethodName}{bytes:ByteArray}{ret:Option FieldType}{pc:Nat}{ls:List Slot}{st:List Value}{H:AHeap}{Q:Option Value→AHeap→Prop}{ins:Instr}{len nx:Nat}{v:Value} (n:Int64) (hd:decode bytes pc=.ok (ins,len)) (hx:xstep ins len pc ls st=some (nx,ls,v::st)) (hv:v=.long n:=by decide):W ws dn k y bytes ret pc ls st H Q=W ws dn k y bytes ret nx ls (.long n::st) H Q:=w_con hd hx hv
set_option maxRecDepth 100000
theorem cs {y y':MethodName}{b:ByteArray}{mx i f' l' f l na sl:Nat}{r:Option FieldType} (sig:MethodDescriptor) (h2:rCode tables_1 y'=some (b,mx,r)) (h3:dnOf dn y'=some (f',l')) (h4:dnOf dn y=some (f,l)) (h1:rMth tables_1 y.cls i=some y':=by decide +kernel) (h5:parseMethodDescriptor y'.desc=some sig:=by decide +kernel) (h6:decide (hasInit tables_1 y'.cls=true∧Jvm.plainName y'.cls=true∧y'.cls ≠ "java/lang/invoke/MethodHandle" ∧ y'.cls ≠ "java/lang/invoke/VarHandle" ∧ f'+1≤f∧mx+11+l'≤l)=true:=by decide +kernel) (h7:sig.parameters.length=na:=by rfl) (h8:l - (mx+11+l')=sl:=by rfl) (g:hasStat tables_1 y'=true:=by decide +kernel):sR tables_1 dn y i=some (y',b,mx,r,na,sl):=sR_of (cR_of h1 h2 h3 h4 h5 h6 h7 h8) g
theorem cp {y y':MethodName}{b:ByteArray}{mx i f' l' f l na sl:Nat}{r:Option FieldType} (sig:MethodDescriptor) (h2:rCode tables_1 y'=some (b,mx,r)) (h3:dnOf dn y'=some (f',l')) (h4:dnOf dn y=some (f,l)) (h1:rMth tables_1 y.cls i=some y':=by decide +kernel) (h5:parseMethodDescriptor y'.desc=some sig:=by decide +kernel) (h6:decide (hasInit tables_1 y'.cls=true∧Jvm.plainName y'.cls=true∧y'.cls ≠ "java/lang/invoke/MethodHandle" ∧ y'.cls ≠ "java/lang/invoke/VarHandle" ∧ f'+1≤f∧mx+11+l'≤l)=true:=by decide +kernel) (h7:sig.parameters.length=na:=by rfl) (h8:l - (mx+11+l')=sl:=by rfl) (g:hasIM tables_1 y'=true:=by decide +kernel) (g2:decide (hasPriv tables_1 y'=true∧(rInst tables_1 y'.cls).isSome=true)=true:=by decide +kernel):vR tables_1 dn y i=some (true,y',b,mx,r,na,sl):=pR_of (cR_of h1 h2 h3 h4 h5 h6 h7 h8) g g2
theorem cv {y y':MethodName}{b:ByteArray}{mx i f' l' f l na sl:Nat}{r:Option FieldType} (sig:MethodDescriptor) (h2:rCode tables_1 y'=some (b,mx,r)) (h3:dnOf dn y'=some (f',l')) (h4:dnOf dn y=some (f,l)) (h1:rMth tables_1 y.cls i=some y':=by decide +kernel) (h5:parseMethodDescriptor y'.desc=some sig:=by decide +kernel) (h6:decide (hasInit tables_1 y'.cls=true∧Jvm.plainName y'.cls=true∧y'.cls ≠ "java/lang/invoke/MethodHandle" ∧ y'.cls ≠ "java/lang/invoke/VarHandle" ∧ f'+1≤f∧mx+11+l'≤l)=true:=by decide +kernel) (h7:sig.parameters.length=na:=by rfl) (h8:l - (mx+11+l')=sl:=by rfl) (g:hasIM tables_1 y'=true:=by decide +kernel) (g2:decide (hasPriv tables_1 y'=true∧(rInst tables_1 y'.cls).isSome=true)=false:=by decide +kernel) (g3:decide (hasDecl tables_1 y'=true∧hasSel tables_1 y'=true)=true:=by decide +kernel):vR tables_1 dn y i=some (false,y',b,mx,r,na,sl):=vR_of (cR_of h1 h2 h3 h4 h5 h6 h7 h8) g g2 g3
theorem wv {y:MethodName}{bytes:ByteArray}{ret:Option FieldType}{pc:Nat}{ls:List Slot}{Q:Option Value→AHeap→Prop}{i mx na sl b:Nat}{pv:Bool}{y':MethodName}{c:ByteArray}{r:Option FieldType}{en:List Slot}{e g:AHeap}{s:Nat→Int32}{A:Nat→List Int32} (as rest:List Value) (hd:decode bytes pc=.ok (.invokevirtual i,3)) (hr:vR tables_1 dn y i=some (pv,y',c,mx,r,na,sl)) (hC : "AgentExprDbg" = y'.cls) (hn:as.length=na) (hw:Nat.ble (wsum rest) sl=true) (he:Nat.ble (ent (.ref (b+1)::as.reverse)).length mx=true) (hen:entry (.ref (b+1)::as.reverse) mx=en):W tables_1 dn 1 y bytes ret pc ls (as ++ .ref (b+1)::rest) (put (b+1) e s A g) Q=W tables_1 dn 1 y' c r 0 en [] (put (b+1) e s A g) (fun v H1 => W tables_1 dn 1 y bytes ret (pc+3) ls (v.toList ++ rest) H1 Q):=w_virt (as:=as) (rest:=rest) (a:=b+1) hd hr put_o hC hn (Nat.le_of_ble_eq_true hw) (Nat.le_of_ble_eq_true he) hen
theorem wt {y:MethodName}{bytes:ByteArray}{ret:Option FieldType}{pc:Nat}{ls:List Slot}{H:AHeap}{Q:Option Value→AHeap→Prop}{i mx na sl:Nat}{y':MethodName}{c:ByteArray}{r:Option FieldType}{en:List Slot} (as rest:List Value) (hd:decode bytes pc=.ok (.invokestatic i,3)) (hr:sR tables_1 dn y i=some (y',c,mx,r,na,sl)) (hn:as.length=na) (hw:Nat.ble (wsum rest) sl=true) (he:Nat.ble (ent as.reverse).length mx=true) (hen:entry as.reverse mx=en):W tables_1 dn 1 y bytes ret pc ls (as ++ rest) H Q=W tables_1 dn 1 y' c r 0 en [] H (fun v H1 => W tables_1 dn 1 y bytes ret (pc+3) ls (v.toList ++ rest) H1 Q):=w_stat (as:=as) (rest:=rest) hd hr hn (Nat.le_of_ble_eq_true hw) (Nat.le_of_ble_eq_true he) hen
theorem ws {y:MethodName}{bytes:ByteArray}{ret:Option FieldType}{pc:Nat}{ls:List Slot}{st:List Value}{H:AHeap}{Q:Option Value→AHeap→Prop}{ins:Instr}{len:Nat}{o:Slot}{v:Value}{nx:Nat}{ls':List Slot} (i:Nat) (hd:decode bytes pc=.ok (ins,len)) (hx:xstep ins len pc ls (v::st)=stV isI nx i ls (v::st)) (hp:isI v=true) (hv:v.category=1) (ho:ls[i]?=some o) (hs:ls.set i (.val v)=ls') (hc:c1 o=true):W tables_1 dn 1 y bytes ret pc ls (v::st) H Q=W tables_1 dn 1 y bytes ret nx ls' st H Q:=w_st (i:=i) (p:=isI) hd hx hp hv ho hs hc
theorem d0 {c:ByteArray}{p:Nat} (h:decode c p=.ok (.aload_n 0,1):=by decide +kernel):decode c p=.ok (.aload_n 0,1):=h
theorem d1 {c:ByteArray}{p:Nat} (h:decode c p=.ok (.iload_n 1,1):=by decide +kernel):decode c p=.ok (.iload_n 1,1):=h
theorem d2 {c:ByteArray}{p:Nat} (h:decode c p=.ok (.ireturn,1):=by decide +kernel):decode c p=.ok (.ireturn,1):=h
theorem d3 {c:ByteArray}{p:Nat} (h:decode c p=.ok (.iconst 0,1):=by decide +kernel):decode c p=.ok (.iconst 0,1):=h
theorem d4 {c:ByteArray}{p:Nat} (h:decode c p=.ok (.iload_n 2,1):=by decide +kernel):decode c p=.ok (.iload_n 2,1):=h
theorem d5 {c:ByteArray}{p:Nat} (h:decode c p=.ok (.iconst 1,1):=by decide +kernel):decode c p=.ok (.iconst 1,1):=h
theorem d6 {c:ByteArray}{p:Nat} (h:decode c p=.ok (.iload_n 3,1):=by decide +kernel):decode c p=.ok (.iload_n 3,1):=h
theorem d7 {c:ByteArray}{p:Nat} (h:decode c p=.ok (.iaload,1):=by decide +kernel):decode c p=.ok (.iaload,1):=h
theorem d8 {c:ByteArray}{p:Nat} (h:decode c p=.ok (.iastore,1):=by decide +kernel):decode c p=.ok (.iastore,1):=h
theorem d9 {c:ByteArray}{p:Nat} (h:decode c p=.ok (.iadd,1):=by decide +kernel):decode c p=.ok (.iadd,1):=h
theorem d10 {c:ByteArray}{p:Nat} (h:decode c p=.ok (.ifCond .ne 5,3):=by decide +kernel):decode c p=.ok (.ifCond .ne 5,3):=h
theorem d11 {c:ByteArray}{p:Nat} (h:decode c p=.ok (.iload 4,2):=by decide +kernel):decode c p=.ok (.iload 4,2):=h
theorem d12 {c:ByteArray}{p:Nat} (h:decode c p=.ok (.iconst 4,1):=by decide +kernel):decode c p=.ok (.iconst 4,1):=h
theorem d13 {c:ByteArray}{p:Nat} (h:decode c p=.ok (.newarray .int,2):=by decide +kernel):decode c p=.ok (.newarray .int,2):=h
theorem d14 {c:ByteArray}{p:Nat} (h:decode c p=.ok (.goto 4,3):=by decide +kernel):decode c p=.ok (.goto 4,3):=h
theorem d15 {c:ByteArray}{p:Nat} (h:decode c p=.ok (.iconst 3,1):=by decide +kernel):decode c p=.ok (.iconst 3,1):=h
theorem d16 {c:ByteArray}{p:Nat} (h:decode c p=.ok (.bipush 32,2):=by decide +kernel):decode c p=.ok (.bipush 32,2):=h
theorem d17 {c:ByteArray}{p:Nat} (h:decode c p=.ok (.istore_n 3,1):=by decide +kernel):decode c p=.ok (.istore_n 3,1):=h
theorem d18 {c:ByteArray}{p:Nat} (h:decode c p=.ok (.invokevirtual 126,3):=by decide +kernel):decode c p=.ok (.invokevirtual 126,3):=h
theorem d19 {c:ByteArray}{p:Nat} (h:decode c p=.ok (.bipush 8,2):=by decide +kernel):decode c p=.ok (.bipush 8,2):=h
theorem d20 {c:ByteArray}{p:Nat} (h:decode c p=.ok (.iconst 2,1):=by decide +kernel):decode c p=.ok (.iconst 2,1):=h
theorem d21 {c:ByteArray}{p:Nat} (h:decode c p=.ok (.isub,1):=by decide +kernel):decode c p=.ok (.isub,1):=h
theorem d22 {c:ByteArray}{p:Nat} (h:decode c p=.ok (.bipush 7,2):=by decide +kernel):decode c p=.ok (.bipush 7,2):=h
theorem d23 {c:ByteArray}{p:Nat} (h:decode c p=.ok (.istore 4,2):=by decide +kernel):decode c p=.ok (.istore 4,2):=h
theorem d24 {c:ByteArray}{p:Nat} (h:decode c p=.ok (.return_,1):=by decide +kernel):decode c p=.ok (.return_,1):=h
theorem d25 {c:ByteArray}{p:Nat} (h:decode c p=.ok (.istore_n 2,1):=by decide +kernel):decode c p=.ok (.istore_n 2,1):=h
theorem d26 {c:ByteArray}{p:Nat} (h:decode c p=.ok (.getfield 7,3):=by decide +kernel):decode c p=.ok (.getfield 7,3):=h
theorem d27 {c:ByteArray}{p:Nat} (h:decode c p=.ok (.bipush 31,2):=by decide +kernel):decode c p=.ok (.bipush 31,2):=h
theorem d28 {c:ByteArray}{p:Nat} (h:decode c p=.ok (.getfield 187,3):=by decide +kernel):decode c p=.ok (.getfield 187,3):=h
theorem d29 {c:ByteArray}{p:Nat} (h:decode c p=.ok (.getfield 302,3):=by decide +kernel):decode c p=.ok (.getfield 302,3):=h
theorem d30 {c:ByteArray}{p:Nat} (h:decode c p=.ok (.if_icmp .ne 8,3):=by decide +kernel):decode c p=.ok (.if_icmp .ne 8,3):=h
theorem d31 {c:ByteArray}{p:Nat} (h:decode c p=.ok (.bipush 64,2):=by decide +kernel):decode c p=.ok (.bipush 64,2):=h
theorem d32 {c:ByteArray}{p:Nat} (h:decode c p=.ok (.getfield 190,3):=by decide +kernel):decode c p=.ok (.getfield 190,3):=h
theorem d33 {c:ByteArray}{p:Nat} (h:decode c p=.ok (.getfield 31,3):=by decide +kernel):decode c p=.ok (.getfield 31,3):=h
theorem d34 {c:ByteArray}{p:Nat} (h:decode c p=.ok (.getfield 181,3):=by decide +kernel):decode c p=.ok (.getfield 181,3):=h
theorem d35 {c:ByteArray}{p:Nat} (h:decode c p=.ok (.ifCond .eq 12,3):=by decide +kernel):decode c p=.ok (.ifCond .eq 12,3):=h
theorem d36 {c:ByteArray}{p:Nat} (h:decode c p=.ok (.if_icmp .eq 9,3):=by decide +kernel):decode c p=.ok (.if_icmp .eq 9,3):=h
section Rules
variable {b r q:Nat}{pre:AHeap}{s:Nat→Int32}{A:Nat→List Int32}{post:AHeap}{ls:List Slot}{st:List Value}{H R:AHeap}{Q:Option Value→AHeap→Prop}{x y v z j:Int32}{J1 J2:Int64}{sc:List Int32}{a c d f k l m n o p t u w C E F G I K N O P S T U V W X Y l0 l1 l2 l3 l4 l5:Slot}{a0 a1 a2 a3 a4 u0 u1 u2 u3:Int32}{v0 v1 v2 v3 v4 v5 v6 v7 v8 v9 v10 v11 v12 v13 v14 v15 v16 v17 v18 v19 v20 v21 v22 v23 v24 v25 v26 v27 v28:Int32}{w0 w1 w2 w3 w4 w5 w6 w7 w8 w9 w10 w11 w12 w13 w14 w15 w16 w17 w18 w19 w20 w21 w22 w23 w24 w25 w26 w27 w28:Int64}{e g:AHeap}
theorem m0_0:M0 0 (.val (.ref r)::ls) st H Q=M0 1 (.val (.ref r)::ls) (.ref r::st) H Q:=w_x d0 rfl
theorem m0_1:M0 1 ls [.ref r] H Q=M0 4 ls [] H Q:=w_obj (dc (.invokespecial 1,3)) (sl:=0) (by decide +kernel) (by decide)
theorem m0_4:M0 4 (.val (.ref r)::ls) st H Q=M0 5 (.val (.ref r)::ls) (.ref r::st) H Q:=w_x d0 rfl
theorem m0_5:M0 5 ls st H Q=M0 7 ls (.int 8::st) H Q:=w_con d19 rfl (by decide)
theorem m0_12:M0 12 (.val (.ref r)::ls) st H Q=M0 13 (.val (.ref r)::ls) (.ref r::st) H Q:=w_x d0 rfl
theorem m0_13:M0 13 ls st H Q=M0 15 ls (.int 32::st) H Q:=w_con d16 rfl (by decide)
theorem m0_20:M0 20 (.val (.ref r)::ls) st H Q=M0 21 (.val (.ref r)::ls) (.ref r::st) H Q:=w_x d0 rfl
theorem m0_21:M0 21 ls st H Q=M0 23 ls (.int 32::st) H Q:=w_con d16 rfl (by decide)
theorem m0_28:M0 28 (.val (.ref r)::ls) st H Q=M0 29 (.val (.ref r)::ls) (.ref r::st) H Q:=w_x d0 rfl
theorem m0_29:M0 29 ls st H Q=M0 31 ls (.int 32::st) H Q:=w_con d16 rfl (by decide)
theorem m0_36:M0 36 (.val (.ref r)::ls) st H Q=M0 37 (.val (.ref r)::ls) (.ref r::st) H Q:=w_x d0 rfl
theorem m0_37:M0 37 ls st H Q=M0 39 ls (.int 32::st) H Q:=w_con d16 rfl (by decide)
theorem m0_44:M0 44 (.val (.ref r)::ls) st H Q=M0 45 (.val (.ref r)::ls) (.ref r::st) H Q:=w_x d0 rfl
theorem m0_45:M0 45 ls st H Q=M0 47 ls (.int 32::st) H Q:=w_con d16 rfl (by decide)
theorem m0_52:M0 52 (.val (.ref r)::ls) st H Q=M0 53 (.val (.ref r)::ls) (.ref r::st) H Q:=w_x d0 rfl
theorem m0_53:M0 53 ls st H Q=M0 55 ls (.int 32::st) H Q:=w_con d16 rfl (by decide)
theorem m0_60:M0 60 (.val (.ref r)::ls) st H Q=M0 61 (.val (.ref r)::ls) (.ref r::st) H Q:=w_x d0 rfl
theorem m0_61:M0 61 ls st H Q=M0 62 ls (.int 4::st) H Q:=w_con d12 rfl (by decide)
theorem m0_67:M0 67 (.val (.ref r)::ls) st H Q=M0 68 (.val (.ref r)::ls) (.ref r::st) H Q:=w_x d0 rfl
theorem m0_68:M0 68 ls st H Q=M0 69 ls (.int 4::st) H Q:=w_con d12 rfl (by decide)
theorem m0_74:M0 74 (.val (.ref r)::ls) st H Q=M0 75 (.val (.ref r)::ls) (.ref r::st) H Q:=w_x d0 rfl
theorem m0_75:M0 75 ls st H Q=M0 76 ls (.int 4::st) H Q:=w_con d12 rfl (by decide)
theorem m0_81:M0 81 (.val (.ref r)::ls) st H Q=M0 82 (.val (.ref r)::ls) (.ref r::st) H Q:=w_x d0 rfl
theorem m0_82:M0 82 ls st H Q=M0 83 ls (.int 4::st) H Q:=w_con d12 rfl (by decide)
theorem m0_88:M0 88 (.val (.ref r)::ls) st H Q=M0 89 (.val (.ref r)::ls) (.ref r::st) H Q:=w_x d0 rfl
theorem m0_89:M0 89 ls st H Q=M0 90 ls (.int 4::st) H Q:=w_con d12 rfl (by decide)
theorem m0_95:M0 95 (.val (.ref r)::ls) st H Q=M0 96 (.val (.ref r)::ls) (.ref r::st) H Q:=w_x d0 rfl
theorem m0_96:M0 96 ls st H Q=M0 97 ls (.int 4::st) H Q:=w_con d12 rfl (by decide)
theorem m0_102:M0 102 (.val (.ref r)::ls) st H Q=M0 103 (.val (.ref r)::ls) (.ref r::st) H Q:=w_x d0 rfl
theorem m0_103:M0 103 ls st H Q=M0 106 ls (.int 256::st) H Q:=w_con (dc (.sipush 256,3)) rfl (by decide)
theorem m0_111:M0 111 (.val (.ref r)::ls) st H Q=M0 112 (.val (.ref r)::ls) (.ref r::st) H Q:=w_x d0 rfl
theorem m0_112:M0 112 ls st H Q=M0 115 ls (.int 256::st) H Q:=w_con (dc (.sipush 256,3)) rfl (by decide)
theorem m0_120:M0 120 (.val (.ref r)::ls) st H Q=M0 121 (.val (.ref r)::ls) (.ref r::st) H Q:=w_x d0 rfl
theorem m0_121:M0 121 ls st H Q=M0 123 ls (.int 16::st) H Q:=w_con (dc (.bipush 16,2)) rfl (by decide)
theorem m0_128:M0 128 (.val (.ref r)::ls) st H Q=M0 129 (.val (.ref r)::ls) (.ref r::st) H Q:=w_x d0 rfl
theorem m0_129:M0 129 ls st H Q=M0 131 ls (.int 16::st) H Q:=w_con (dc (.bipush 16,2)) rfl (by decide)
theorem m0_136:M0 136 (.val (.ref r)::ls) st H Q=M0 137 (.val (.ref r)::ls) (.ref r::st) H Q:=w_x d0 rfl
theorem m0_137:M0 137 ls st H Q=M0 139 ls (.int 64::st) H Q:=w_con d31 rfl (by decide)
theorem m0_144:M0 144 (.val (.ref r)::ls) st H Q=M0 145 (.val (.ref r)::ls) (.ref r::st) H Q:=w_x d0 rfl
theorem m0_145:M0 145 ls st H Q=M0 147 ls (.int 64::st) H Q:=w_con d31 rfl (by decide)
theorem m0_152:M0 152 (.val (.ref r)::ls) st H Q=M0 153 (.val (.ref r)::ls) (.ref r::st) H Q:=w_x d0 rfl
theorem m0_153:M0 153 ls st H Q=M0 154 ls (.int 4::st) H Q:=w_con d12 rfl (by decide)
theorem m0_159:M0 159 (.val (.ref r)::ls) st H Q=M0 160 (.val (.ref r)::ls) (.ref r::st) H Q:=w_x d0 rfl
theorem m0_160:M0 160 ls st H Q=M0 161 ls (.int 4::st) H Q:=w_con d12 rfl (by decide)
theorem m0_166:M0 166 (.val (.ref r)::ls) st H Q=M0 167 (.val (.ref r)::ls) (.ref r::st) H Q:=w_x d0 rfl
theorem m0_167:M0 167 ls st H Q=M0 169 ls (.int 32::st) H Q:=w_con d16 rfl (by decide)
theorem m0_174:M0 174 (.val (.ref r)::ls) st H Q=M0 175 (.val (.ref r)::ls) (.ref r::st) H Q:=w_x d0 rfl
theorem m0_175:M0 175 ls st H Q=M0 177 ls (.int 32::st) H Q:=w_con d16 rfl (by decide)
theorem m0_182:M0 182 (.val (.ref r)::ls) st H Q=M0 183 (.val (.ref r)::ls) (.ref r::st) H Q:=w_x d0 rfl
theorem m0_183:M0 183 ls st H Q=M0 185 ls (.int 32::st) H Q:=w_con d16 rfl (by decide)
theorem m0_190:M0 190 (.val (.ref r)::ls) st H Q=M0 191 (.val (.ref r)::ls) (.ref r::st) H Q:=w_x d0 rfl
theorem m0_191:M0 191 ls st H Q=M0 193 ls (.int 40::st) H Q:=w_con (dc (.bipush 40,2)) rfl (by decide)
theorem m0_198:M0 198 (.val (.ref r)::ls) st H Q=M0 199 (.val (.ref r)::ls) (.ref r::st) H Q:=w_x d0 rfl
theorem m0_199:M0 199 ls st H Q=M0 201 ls (.int 8::st) H Q:=w_con d19 rfl (by decide)
theorem m0_206:M0 206 (.val (.ref r)::ls) st H Q=M0 207 (.val (.ref r)::ls) (.ref r::st) H Q:=w_x d0 rfl
theorem m0_207:M0 207 ls st H Q=M0 209 ls (.int 8::st) H Q:=w_con d19 rfl (by decide)
theorem m0_214:M0 214 (.val (.ref r)::ls) st H Q=M0 215 (.val (.ref r)::ls) (.ref r::st) H Q:=w_x d0 rfl
theorem m0_215:M0 215 ls st H Q=M0 217 ls (.int 8::st) H Q:=w_con d19 rfl (by decide)
theorem m0_222:M0 222 (.val (.ref r)::ls) st H Q=M0 223 (.val (.ref r)::ls) (.ref r::st) H Q:=w_x d0 rfl
theorem m0_223:M0 223 ls st H Q=M0 225 ls (.int 8::st) H Q:=w_con d19 rfl (by decide)
theorem m0_230:M0 230 (.val (.ref r)::ls) st H Q=M0 231 (.val (.ref r)::ls) (.ref r::st) H Q:=w_x d0 rfl
theorem m0_231:M0 231 ls st H Q=M0 233 ls (.int 8::st) H Q:=w_con d19 rfl (by decide)
theorem m0_238:M0 238 (.val (.ref r)::ls) st H Q=M0 239 (.val (.ref r)::ls) (.ref r::st) H Q:=w_x d0 rfl
theorem m0_239:M0 239 ls st H Q=M0 241 ls (.int 24::st) H Q:=w_con (dc (.bipush 24,2)) rfl (by decide)
theorem m0_246:M0 246 (.val (.ref r)::ls) st H Q=M0 247 (.val (.ref r)::ls) (.ref r::st) H Q:=w_x d0 rfl
theorem m0_247:M0 247 ls st H Q=M0 248 ls (.int 3::st) H Q:=w_con d15 rfl (by decide)
theorem m0_253:M0 253 (a::.val (.int v)::ls) st H Q=M0 254 (a::.val (.int v)::ls) (.int v::st) H Q:=w_x d1 rfl
theorem m0_254u:M0 254 (a::c::d::.unset::ls) ((.int v)::st) H Q=M0 255 (a::c::d::.val (.int v)::ls) st H Q:=ws 3 d17 rfl rfl rfl rfl rfl rfl
theorem m0_255:M0 255 (a::c::d::.val (.int v)::ls) st H Q=M0 256 (a::c::d::.val (.int v)::ls) (.int v::st) H Q:=w_x d6 rfl
theorem m0_256:M0 256 ls st H Q=M0 257 ls (.int 2::st) H Q:=w_con d20 rfl (by decide)
theorem m0_257:M0 257 ls (.int y::.int x::st) H Q=if x < y then M0 260 ls st H Q else M0 262 ls st H Q:=w_icmpN (dc (.if_icmp .ge 5,3)) (i_ge x y) rfl
theorem m0_260:M0 260 ls st H Q=M0 261 ls (.int 2::st) H Q:=w_con d20 rfl (by decide)
theorem m0_261i:M0 261 (a::c::d::.val (.int z)::ls) ((.int v)::st) H Q=M0 262 (a::c::d::.val (.int v)::ls) st H Q:=ws 3 d17 rfl rfl rfl rfl rfl rfl
theorem m0_262:M0 262 (a::c::d::.val (.int v)::ls) st H Q=M0 263 (a::c::d::.val (.int v)::ls) (.int v::st) H Q:=w_x d6 rfl
theorem m0_263:M0 263 ls st H Q=M0 265 ls (.int 8::st) H Q:=w_con d19 rfl (by decide)
theorem m0_265:M0 265 ls (.int y::.int x::st) H Q=if y < x then M0 268 ls st H Q else M0 271 ls st H Q:=w_icmpN (dc (.if_icmp .le 6,3)) (i_le x y) rfl
theorem m0_268:M0 268 ls st H Q=M0 270 ls (.int 8::st) H Q:=w_con d19 rfl (by decide)
theorem m0_270i:M0 270 (a::c::d::.val (.int z)::ls) ((.int v)::st) H Q=M0 271 (a::c::d::.val (.int v)::ls) st H Q:=ws 3 d17 rfl rfl rfl rfl rfl rfl
theorem m0_271:M0 271 (.val (.ref r)::ls) st H Q=M0 272 (.val (.ref r)::ls) (.ref r::st) H Q:=w_x d0 rfl
theorem m0_272:M0 272 (a::c::d::.val (.int v)::ls) st H Q=M0 273 (a::c::d::.val (.int v)::ls) (.int v::st) H Q:=w_x d6 rfl
theorem pf0_106:pfR tables_1 y0.cls y0.name 106=some ("AgentExprDbg", 32,.int):=by decide +kernel
theorem m0_273:M0 273 ls (.int v::.ref (b+1)::st) (put (b+1) e s A g) Q=M0 276 ls st (put (b+1) e (ou s 17 v) A g) Q:=w_put (dc (.putfield 106,3)) pf0_106 put_o (Nat.succ_le_succ (Nat.zero_le _)) (by show 32 < 60; omega) rfl put_s17
theorem m0_276:M0 276 (a::c::.val (.int v)::ls) st H Q=M0 277 (a::c::.val (.int v)::ls) (.int v::st) H Q:=w_x d4 rfl
theorem m0_277u:M0 277 [a,c,d,f,.unset] ((.int v)::st) H Q=M0 279 [a,c,d,f,.val (.int v)] st H Q:=ws 4 d23 rfl rfl rfl rfl rfl rfl
theorem m0_279:M0 279 [a,c,d,f,.val (.int v)] st H Q=M0 281 [a,c,d,f,.val (.int v)] (.int v::st) H Q:=w_x d11 rfl
theorem m0_281:M0 281 ls (.int x::st) H Q=if x < 0 then M0 284 ls st H Q else M0 287 ls st H Q:=w_ifN (dc (.ifCond .ge 6,3)) (z_ge x) rfl
theorem m0_284:M0 284 ls st H Q=M0 285 ls (.int 0::st) H Q:=w_con d3 rfl (by decide)
theorem m0_285i:M0 285 [a,c,d,f,.val (.int z)] ((.int v)::st) H Q=M0 287 [a,c,d,f,.val (.int v)] st H Q:=ws 4 d23 rfl rfl rfl rfl rfl rfl
theorem m0_287:M0 287 [a,c,d,f,.val (.int v)] st H Q=M0 289 [a,c,d,f,.val (.int v)] (.int v::st) H Q:=w_x d11 rfl
theorem m0_289:M0 289 ls st H Q=M0 290 ls (.int 1::st) H Q:=w_con d5 rfl (by decide)
theorem m0_290:M0 290 ls (.int y::.int x::st) H Q=if y < x then M0 293 ls st H Q else M0 296 ls st H Q:=w_icmpN (dc (.if_icmp .le 6,3)) (i_le x y) rfl
theorem m0_293:M0 293 ls st H Q=M0 294 ls (.int 1::st) H Q:=w_con d5 rfl (by decide)
theorem m0_294i:M0 294 [a,c,d,f,.val (.int z)] ((.int v)::st) H Q=M0 296 [a,c,d,f,.val (.int v)] st H Q:=ws 4 d23 rfl rfl rfl rfl rfl rfl
theorem m0_296:M0 296 (.val (.ref r)::ls) st H Q=M0 297 (.val (.ref r)::ls) (.ref r::st) H Q:=w_x d0 rfl
theorem m0_297:M0 297 [a,c,d,f,.val (.int v)] st H Q=M0 299 [a,c,d,f,.val (.int v)] (.int v::st) H Q:=w_x d11 rfl
theorem pf0_110:pfR tables_1 y0.cls y0.name 110=some ("AgentExprDbg", 33,.int):=by decide +kernel
theorem m0_299:M0 299 ls (.int v::.ref (b+1)::st) (put (b+1) e s A g) Q=M0 302 ls st (put (b+1) e (ou s 18 v) A g) Q:=w_put (dc (.putfield 110,3)) pf0_110 put_o (Nat.succ_le_succ (Nat.zero_le _)) (by show 33 < 60; omega) rfl put_s18
theorem m0_302:M0 302 (.val (.ref r)::ls) st H Q=M0 303 (.val (.ref r)::ls) (.ref r::st) H Q:=w_x d0 rfl
theorem m0_303:M0 303 ls st H Q=M0 304 ls (.int 0::st) H Q:=w_con d3 rfl (by decide)
theorem pf0_113:pfR tables_1 y0.cls y0.name 113=some ("AgentExprDbg", 34,.int):=by decide +kernel
theorem m0_304:M0 304 ls (.int v::.ref (b+1)::st) (put (b+1) e s A g) Q=M0 307 ls st (put (b+1) e (ou s 4 v) A g) Q:=w_put (dc (.putfield 113,3)) pf0_113 put_o (Nat.succ_le_succ (Nat.zero_le _)) (by show 34 < 60; omega) rfl put_s4
theorem m0_307:M0 307 (.val (.ref r)::ls) st H Q=M0 308 (.val (.ref r)::ls) (.ref r::st) H Q:=w_x d0 rfl
theorem m0_308:M0 308 ls st H Q=M0 309 ls (.int 0::st) H Q:=w_con d3 rfl (by decide)
theorem pf0_116:pfR tables_1 y0.cls y0.name 116=some ("AgentExprDbg", 35,.int):=by decide +kernel
theorem m0_309:M0 309 ls (.int v::.ref (b+1)::st) (put (b+1) e s A g) Q=M0 312 ls st (put (b+1) e (ou s 5 v) A g) Q:=w_put (dc (.putfield 116,3)) pf0_116 put_o (Nat.succ_le_succ (Nat.zero_le _)) (by show 35 < 60; omega) rfl put_s5
theorem m0_312:M0 312 (.val (.ref r)::ls) st H Q=M0 313 (.val (.ref r)::ls) (.ref r::st) H Q:=w_x d0 rfl
theorem m0_313:M0 313 ls st H Q=M0 314 ls (.int 0::st) H Q:=w_con d3 rfl (by decide)
theorem pf0_119:pfR tables_1 y0.cls y0.name 119=some ("AgentExprDbg", 36,.int):=by decide +kernel
theorem m0_314:M0 314 ls (.int v::.ref (b+1)::st) (put (b+1) e s A g) Q=M0 317 ls st (put (b+1) e (ou s 6 v) A g) Q:=w_put (dc (.putfield 119,3)) pf0_119 put_o (Nat.succ_le_succ (Nat.zero_le _)) (by show 36 < 60; omega) rfl put_s6
theorem m0_317:M0 317 ls [] H Q=Q none H:=w_vret d24 rfl
theorem m1_0:M1 0 (.val (.ref (b+1))::.val (.int v1)::ls) st H Q=M1 5 (.val (.ref (b+1))::.val (.int v1)::ls) (.int 7::.int 0::.int v1::.ref (b+1)::st) H Q:=(w_x d0 rfl).trans ((w_x d1 rfl).trans ((w_ki 0 d3 rfl).trans (w_ki 7 d22 rfl)))
theorem cr1_126:vR tables_1 dn y1 126=some (true,y2,prog_1_method_64_code,4,(some .boolean),3,0):=cp ⟨[.int,.int,.int],some .boolean⟩ rc_2 dn_2 dn_1
theorem m1_5:M1 5 ls [.int a2,.int a1,.int a0,.ref (b+1)] (put (b+1) e s A g) Q=M2 0 [.val (.ref (b+1)),.val (.int a0),.val (.int a1),.val (.int a2)] [] (put (b+1) e s A g) (fun v H1 => M1 8 ls (v.toList ++ []) H1 Q):=wv [.int a2,.int a1,.int a0] [] d18 cr1_126 rfl rfl rfl rfl rfl
theorem m1_8:M1 8 ls (.int x::st) H Q=if x=0 then M1 20 ls st H Q else M1 11 ls st H Q:=w_if d35 (z_eq x) rfl
theorem m1_11:M1 11 [.val (.ref (b+1)),.val (.int v1),.val (.int v2)] st (put (b+1) e s A g) Q=(inB v1 (A 0)∧M1 18 [.val (.ref (b+1)),.val (.int v1),.val (.int v2)] st (put (b+1) e s (ou A 0 (setA (A 0) v1 v2)) g) Q):=(w_x d0 rfl).trans ((w_get d26 gf_7 put_o rfl).trans ((w_x d1 rfl).trans ((w_x d4 rfl).trans (w_ist d8 rfl put_a0 (by omega) rfl put_w0))))
theorem m1_18:M1 18 ls st H Q=M1 19 ls (.int 1::st) H Q:=w_con d5 rfl (by decide)
theorem m1_19:M1 19 ls (.int z::st) H Q=Q (some (.int (nar .boolean z))) H:=w_iretN d2 rfl (by simp)
theorem m1_20:M1 20 (a::.val (.int v1)::ls) st H Q=if v1=8 then M1 28 (a::.val (.int v1)::ls) st H Q else M1 26 (a::.val (.int v1)::ls) st H Q:=(w_x d1 rfl).trans ((w_ki 8 d19 rfl).trans (w_icmp (dc (.if_icmp .eq 5,3)) (i_eq v1 8) rfl))
theorem m1_26:M1 26 ls st H Q=M1 27 ls (.int 0::st) H Q:=w_con d3 rfl (by decide)
theorem m1_27:M1 27 ls (.int z::st) H Q=Q (some (.int (nar .boolean z))) H:=w_iretN d2 rfl (by simp)
theorem m1_28:M1 28 [.val (.ref (b+1)),c,.val (.int v2)] st H Q=M1 33 [.val (.ref (b+1)),c,.val (.int v2)] (.int 31::.int 0::.int v2::.ref (b+1)::st) H Q:=(w_x d0 rfl).trans ((w_x d4 rfl).trans ((w_ki 0 d3 rfl).trans (w_ki 31 d27 rfl)))
theorem m1_33:M1 33 ls [.int a2,.int a1,.int a0,.ref (b+1)] (put (b+1) e s A g) Q=M2 0 [.val (.ref (b+1)),.val (.int a0),.val (.int a1),.val (.int a2)] [] (put (b+1) e s A g) (fun v H1 => M1 36 ls (v.toList ++ []) H1 Q):=wv [.int a2,.int a1,.int a0] [] d18 cr1_126 rfl rfl rfl rfl rfl
theorem m1_36:M1 36 ls (.int x::st) H Q=if x=0 then M1 39 ls st H Q else M1 41 ls st H Q:=w_ifN d10 (z_ne x) rfl
theorem m1_39:M1 39 ls st H Q=M1 40 ls (.int 0::st) H Q:=w_con d3 rfl (by decide)
theorem m1_40:M1 40 ls (.int z::st) H Q=Q (some (.int (nar .boolean z))) H:=w_iretN d2 rfl (by simp)
theorem pf1_134:pfR tables_1 y1.cls y1.name 134=some ("AgentExprDbg", 47,.int):=by decide +kernel
theorem m1_41:M1 41 [.val (.ref (b+1)),c,.val (.int v2)] st (put (b+1) e s A g) Q=M1 46 [.val (.ref (b+1)),c,.val (.int v2)] st (put (b+1) e (ou s 0 v2) A g) Q:=(w_x d0 rfl).trans ((w_x d4 rfl).trans (w_put (dc (.putfield 134,3)) pf1_134 put_o (Nat.succ_le_succ (Nat.zero_le _)) (by show 47 < 60; omega) rfl put_s0))
theorem pf1_137:pfR tables_1 y1.cls y1.name 137=some ("AgentExprDbg", 46,.boolean):=by decide +kernel
theorem m1_46:M1 46 (.val (.ref (b+1))::ls) st (put (b+1) e s A g) Q=M1 51 (.val (.ref (b+1))::ls) st (put (b+1) e (ou s 1 (nar .boolean 0)) A g) Q:=(w_x d0 rfl).trans ((w_ki 0 d3 rfl).trans (w_put (dc (.putfield 137,3)) pf1_137 put_o (Nat.succ_le_succ (Nat.zero_le _)) (by show 46 < 60; omega) rfl put_s1))
theorem pf1_141:pfR tables_1 y1.cls y1.name 141=some ("AgentExprDbg", 48,.boolean):=by decide +kernel
theorem m1_51:M1 51 (.val (.ref (b+1))::ls) st (put (b+1) e s A g) Q=M1 56 (.val (.ref (b+1))::ls) st (put (b+1) e (ou s 2 (nar .boolean 0)) A g) Q:=(w_x d0 rfl).trans ((w_ki 0 d3 rfl).trans (w_put (dc (.putfield 141,3)) pf1_141 put_o (Nat.succ_le_succ (Nat.zero_le _)) (by show 48 < 60; omega) rfl put_s2))
theorem m1_56:M1 56 ls st H Q=M1 57 ls (.int 1::st) H Q:=w_con d5 rfl (by decide)
theorem m1_57:M1 57 ls (.int z::st) H Q=Q (some (.int (nar .boolean z))) H:=w_iretN d2 rfl (by simp)
theorem m2_0:M2 0 (a::.val (.int v1)::.val (.int v2)::ls) st H Q=if v1 < v2 then M2 14 (a::.val (.int v1)::.val (.int v2)::ls) st H Q else M2 5 (a::.val (.int v1)::.val (.int v2)::ls) st H Q:=(w_x d1 rfl).trans ((w_x d4 rfl).trans (w_icmp (dc (.if_icmp .lt 12,3)) (i_lt v1 v2) rfl))
theorem m2_5:M2 5 [a,.val (.int v1),d,.val (.int v3)] st H Q=if v3 < v1 then M2 14 [a,.val (.int v1),d,.val (.int v3)] st H Q else M2 10 [a,.val (.int v1),d,.val (.int v3)] st H Q:=(w_x d1 rfl).trans ((w_x d6 rfl).trans (w_icmp (dc (.if_icmp .gt 7,3)) (i_gt v1 v3) rfl))
theorem m2_10:M2 10 ls st H Q=M2 15 ls (.int 1::st) H Q:=(w_ki 1 d5 rfl).trans (w_x d14 rfl)
theorem m2_14:M2 14 ls st H Q=M2 15 ls (.int 0::st) H Q:=w_con d3 rfl (by decide)
theorem m2_15:M2 15 ls (.int z::st) H Q=Q (some (.int (nar .boolean z))) H:=w_iretN d2 rfl (by simp)
theorem m3_0:M3 0 [.val (.ref (b+1)),.val (.int v1),.val (.int v2),.val (.int v3),.val (.int v4)] st H Q=M3 6 [.val (.ref (b+1)),.val (.int v1),.val (.int v2),.val (.int v3),.val (.int v4)] (.int v4::.int v3::.int v2::.int v1::.ref (b+1)::st) H Q:=(w_x d0 rfl).trans ((w_x d1 rfl).trans ((w_x d4 rfl).trans ((w_x d6 rfl).trans (w_x d11 rfl))))
theorem cr3_122:vR tables_1 dn y3 122=some (true,y4,prog_1_method_3_code,5,(some .boolean),4,0):=cp ⟨[.int,.int,.int,.int],some .boolean⟩ rc_4 dn_4 dn_3
theorem m3_6:M3 6 ls [.int a3,.int a2,.int a1,.int a0,.ref (b+1)] (put (b+1) e s A g) Q=M4 0 [.val (.ref (b+1)),.val (.int a0),.val (.int a1),.val (.int a2),.val (.int a3)] [] (put (b+1) e s A g) (fun v H1 => M3 9 ls (v.toList ++ []) H1 Q):=wv [.int a3,.int a2,.int a1,.int a0] [] (dc (.invokevirtual 122,3)) cr3_122 rfl rfl rfl rfl rfl
theorem m3_9:M3 9 ls (.int x::st) H Q=if x=0 then M3 12 ls st H Q else M3 14 ls st H Q:=w_ifN d10 (z_ne x) rfl
theorem m3_12:M3 12 ls st H Q=M3 13 ls (.int 0::st) H Q:=w_con d3 rfl (by decide)
theorem m3_13:M3 13 ls (.int z::st) H Q=Q (some (.int (nar .boolean z))) H:=w_iretN d2 rfl (by simp)
theorem m3_14:M3 14 (a::c::.val (.int v2)::ls) st H Q=if v2=0 then M3 18 (a::c::.val (.int v2)::ls) st H Q else M3 41 (a::c::.val (.int v2)::ls) st H Q:=(w_x d4 rfl).trans (w_ifN (dc (.ifCond .ne 26,3)) (z_ne v2) rfl)
theorem m3_18:M3 18 (.val (.ref (b+1))::.val (.int v1)::ls) st (put (b+1) e s A g) Q=(inB v1 (A 2)∧M3 25 (.val (.ref (b+1))::.val (.int v1)::ls) st (put (b+1) e s (ou A 2 (setA (A 2) v1 0)) g) Q):=(w_x d0 rfl).trans ((w_get (dc (.getfield 16,3)) gf_16 put_o rfl).trans ((w_x d1 rfl).trans ((w_ki 0 d3 rfl).trans (w_ist d8 rfl put_a2 (by omega) rfl put_w2))))
theorem m3_25:M3 25 (.val (.ref (b+1))::.val (.int v1)::ls) st (put (b+1) e s A g) Q=(inB v1 (A 3)∧M3 32 (.val (.ref (b+1))::.val (.int v1)::ls) st (put (b+1) e s (ou A 3 (setA (A 3) v1 0)) g) Q):=(w_x d0 rfl).trans ((w_get (dc (.getfield 19,3)) gf_19 put_o rfl).trans ((w_x d1 rfl).trans ((w_ki 0 d3 rfl).trans (w_ist d8 rfl put_a3 (by omega) rfl put_w3))))
theorem m3_32:M3 32 (.val (.ref (b+1))::.val (.int v1)::ls) st (put (b+1) e s A g) Q=(inB v1 (A 4)∧M3 39 (.val (.ref (b+1))::.val (.int v1)::ls) st (put (b+1) e s (ou A 4 (setA (A 4) v1 0)) g) Q):=(w_x d0 rfl).trans ((w_get (dc (.getfield 22,3)) gf_22 put_o rfl).trans ((w_x d1 rfl).trans ((w_ki 0 d3 rfl).trans (w_ist d8 rfl put_a4 (by omega) rfl put_w4))))
theorem m3_39:M3 39 ls st H Q=M3 40 ls (.int 1::st) H Q:=w_con d5 rfl (by decide)
theorem m3_40:M3 40 ls (.int z::st) H Q=Q (some (.int (nar .boolean z))) H:=w_iretN d2 rfl (by simp)
theorem m3_41:M3 41 (.val (.ref (b+1))::.val (.int v1)::.val (.int v2)::ls) st (put (b+1) e s A g) Q=(inB v1 (A 2)∧M3 48 (.val (.ref (b+1))::.val (.int v1)::.val (.int v2)::ls) st (put (b+1) e s (ou A 2 (setA (A 2) v1 v2)) g) Q):=(w_x d0 rfl).trans ((w_get (dc (.getfield 16,3)) gf_16 put_o rfl).trans ((w_x d1 rfl).trans ((w_x d4 rfl).trans (w_ist d8 rfl put_a2 (by omega) rfl put_w2))))
theorem m3_48:M3 48 (.val (.ref (b+1))::.val (.int v1)::d::.val (.int v3)::ls) st (put (b+1) e s A g) Q=(inB v1 (A 3)∧M3 55 (.val (.ref (b+1))::.val (.int v1)::d::.val (.int v3)::ls) st (put (b+1) e s (ou A 3 (setA (A 3) v1 v3)) g) Q):=(w_x d0 rfl).trans ((w_get (dc (.getfield 19,3)) gf_19 put_o rfl).trans ((w_x d1 rfl).trans ((w_x d6 rfl).trans (w_ist d8 rfl put_a3 (by omega) rfl put_w3))))
theorem m3_55:M3 55 [.val (.ref (b+1)),.val (.int v1),d,f,.val (.int v4)] st (put (b+1) e s A g) Q=(inB v1 (A 4)∧M3 63 [.val (.ref (b+1)),.val (.int v1),d,f,.val (.int v4)] st (put (b+1) e s (ou A 4 (setA (A 4) v1 v4)) g) Q):=(w_x d0 rfl).trans ((w_get (dc (.getfield 22,3)) gf_22 put_o rfl).trans ((w_x d1 rfl).trans ((w_x d11 rfl).trans (w_ist d8 rfl put_a4 (by omega) rfl put_w4))))
theorem m3_63:M3 63 ls st H Q=M3 64 ls (.int 1::st) H Q:=w_con d5 rfl (by decide)
theorem m3_64:M3 64 ls (.int z::st) H Q=Q (some (.int (nar .boolean z))) H:=w_iretN d2 rfl (by simp)
theorem m4_0:M4 0 (.val (.ref (b+1))::.val (.int v1)::ls) st H Q=M4 5 (.val (.ref (b+1))::.val (.int v1)::ls) (.int 31::.int 0::.int v1::.ref (b+1)::st) H Q:=(w_x d0 rfl).trans ((w_x d1 rfl).trans ((w_ki 0 d3 rfl).trans (w_ki 31 d27 rfl)))
theorem cr4_126:vR tables_1 dn y4 126=some (true,y2,prog_1_method_64_code,4,(some .boolean),3,14):=cp ⟨[.int,.int,.int],some .boolean⟩ rc_2 dn_2 dn_4
theorem m4_5:M4 5 ls [.int a2,.int a1,.int a0,.ref (b+1)] (put (b+1) e s A g) Q=M2 0 [.val (.ref (b+1)),.val (.int a0),.val (.int a1),.val (.int a2)] [] (put (b+1) e s A g) (fun v H1 => M4 8 ls (v.toList ++ []) H1 Q):=wv [.int a2,.int a1,.int a0] [] d18 cr4_126 rfl rfl rfl rfl rfl
theorem m4_8:M4 8 ls (.int x::st) H Q=if x=0 then M4 11 ls st H Q else M4 13 ls st H Q:=w_ifN d10 (z_ne x) rfl
theorem m4_11:M4 11 ls st H Q=M4 12 ls (.int 0::st) H Q:=w_con d3 rfl (by decide)
theorem m4_12:M4 12 ls (.int z::st) H Q=Q (some (.int (nar .boolean z))) H:=w_iretN d2 rfl (by simp)
theorem m4_13:M4 13 (.val (.ref (b+1))::c::.val (.int v2)::ls) st H Q=M4 18 (.val (.ref (b+1))::c::.val (.int v2)::ls) (.int 7::.int 0::.int v2::.ref (b+1)::st) H Q:=(w_x d0 rfl).trans ((w_x d4 rfl).trans ((w_ki 0 d3 rfl).trans (w_ki 7 d22 rfl)))
theorem m4_18:M4 18 ls [.int a2,.int a1,.int a0,.ref (b+1)] (put (b+1) e s A g) Q=M2 0 [.val (.ref (b+1)),.val (.int a0),.val (.int a1),.val (.int a2)] [] (put (b+1) e s A g) (fun v H1 => M4 21 ls (v.toList ++ []) H1 Q):=wv [.int a2,.int a1,.int a0] [] d18 cr4_126 rfl rfl rfl rfl rfl
theorem m4_21:M4 21 ls (.int x::st) H Q=if x=0 then M4 24 ls st H Q else M4 26 ls st H Q:=w_ifN d10 (z_ne x) rfl
theorem m4_24:M4 24 ls st H Q=M4 25 ls (.int 0::st) H Q:=w_con d3 rfl (by decide)
theorem m4_25:M4 25 ls (.int z::st) H Q=Q (some (.int (nar .boolean z))) H:=w_iretN d2 rfl (by simp)
theorem m4_26:M4 26 (a::c::.val (.int v2)::ls) st H Q=if v2=0 then M4 30 (a::c::.val (.int v2)::ls) st H Q else M4 32 (a::c::.val (.int v2)::ls) st H Q:=(w_x d4 rfl).trans (w_ifN d10 (z_ne v2) rfl)
theorem m4_30:M4 30 ls st H Q=M4 31 ls (.int 1::st) H Q:=w_con d5 rfl (by decide)
theorem m4_31:M4 31 ls (.int z::st) H Q=Q (some (.int (nar .boolean z))) H:=w_iretN d2 rfl (by simp)
theorem m4_32:M4 32 (.val (.ref (b+1))::c::d::.val (.int v3)::ls) st H Q=M4 37 (.val (.ref (b+1))::c::d::.val (.int v3)::ls) (.int 7::.int 0::.int v3::.ref (b+1)::st) H Q:=(w_x d0 rfl).trans ((w_x d6 rfl).trans ((w_ki 0 d3 rfl).trans (w_ki 7 d22 rfl)))
theorem m4_37:M4 37 ls [.int a2,.int a1,.int a0,.ref (b+1)] (put (b+1) e s A g) Q=M2 0 [.val (.ref (b+1)),.val (.int a0),.val (.int a1),.val (.int a2)] [] (put (b+1) e s A g) (fun v H1 => M4 40 ls (v.toList ++ []) H1 Q):=wv [.int a2,.int a1,.int a0] [] d18 cr4_126 rfl rfl rfl rfl rfl
theorem m4_40:M4 40 ls (.int x::st) H Q=if x=0 then M4 43 ls st H Q else M4 45 ls st H Q:=w_ifN d10 (z_ne x) rfl
theorem m4_43:M4 43 ls st H Q=M4 44 ls (.int 0::st) H Q:=w_con d3 rfl (by decide)
theorem m4_44:M4 44 ls (.int z::st) H Q=Q (some (.int (nar .boolean z))) H:=w_iretN d2 rfl (by simp)
theorem m4_45:M4 45 [.val (.ref (b+1)),c,.val (.int v2),f,.val (.int v4)] st H Q=M4 49 [.val (.ref (b+1)),c,.val (.int v2),f,.val (.int v4)] (.int v4::.int v2::.ref (b+1)::st) H Q:=(w_x d0 rfl).trans ((w_x d4 rfl).trans (w_x d11 rfl))
theorem cr4_130:vR tables_1 dn y4 130=some (true,y5,prog_1_method_4_code,3,(some .boolean),2,0):=cp ⟨[.int,.int],some .boolean⟩ rc_5 dn_5 dn_4
theorem m4_49:M4 49 ls [.int a1,.int a0,.ref (b+1)] (put (b+1) e s A g) Q=M5 0 [.val (.ref (b+1)),.val (.int a0),.val (.int a1)] [] (put (b+1) e s A g) (fun v H1 => M4 52 ls (v.toList ++ []) H1 Q):=wv [.int a1,.int a0] [] (dc (.invokevirtual 130,3)) cr4_130 rfl rfl rfl rfl rfl
theorem m4_52:M4 52 ls (.int z::st) H Q=Q (some (.int (nar .boolean z))) H:=w_iretN d2 rfl (by simp)
theorem m5_0:M5 0 (a::.val (.int v1)::ls) st H Q=if v1=2 then M5 21 (a::.val (.int v1)::ls) st H Q else M5 5 (a::.val (.int v1)::ls) st H Q:=(w_x d1 rfl).trans ((w_ki 2 d20 rfl).trans (w_icmp (dc (.if_icmp .eq 19,3)) (i_eq v1 2) rfl))
theorem m5_5:M5 5 (a::.val (.int v1)::ls) st H Q=if v1=3 then M5 21 (a::.val (.int v1)::ls) st H Q else M5 10 (a::.val (.int v1)::ls) st H Q:=(w_x d1 rfl).trans ((w_ki 3 d15 rfl).trans (w_icmp (dc (.if_icmp .eq 14,3)) (i_eq v1 3) rfl))
theorem m5_10:M5 10 (a::.val (.int v1)::ls) st H Q=if v1=5 then M5 21 (a::.val (.int v1)::ls) st H Q else M5 15 (a::.val (.int v1)::ls) st H Q:=(w_x d1 rfl).trans ((w_ki 5 (dc (.iconst 5,1)) rfl).trans (w_icmp d36 (i_eq v1 5) rfl))
theorem m5_15:M5 15 (a::.val (.int v1)::ls) st H Q=if v1=6 then M5 21 (a::.val (.int v1)::ls) st H Q else M5 30 (a::.val (.int v1)::ls) st H Q:=(w_x d1 rfl).trans ((w_ki 6 (dc (.bipush 6,2)) rfl).trans (w_icmpN (dc (.if_icmp .ne 12,3)) (i_ne v1 6) rfl))
theorem m5_21:M5 21 [.val (.ref (b+1)),c,.val (.int v2)] st H Q=M5 26 [.val (.ref (b+1)),c,.val (.int v2)] (.int 7::.int 0::.int v2::.ref (b+1)::st) H Q:=(w_x d0 rfl).trans ((w_x d4 rfl).trans ((w_ki 0 d3 rfl).trans (w_ki 7 d22 rfl)))
theorem cr5_126:vR tables_1 dn y5 126=some (true,y2,prog_1_method_64_code,4,(some .boolean),3,0):=cp ⟨[.int,.int,.int],some .boolean⟩ rc_2 dn_2 dn_5
theorem m5_26:M5 26 ls [.int a2,.int a1,.int a0,.ref (b+1)] (put (b+1) e s A g) Q=M2 0 [.val (.ref (b+1)),.val (.int a0),.val (.int a1),.val (.int a2)] [] (put (b+1) e s A g) (fun v H1 => M5 29 ls (v.toList ++ []) H1 Q):=wv [.int a2,.int a1,.int a0] [] d18 cr5_126 rfl rfl rfl rfl rfl
theorem m5_29:M5 29 ls (.int z::st) H Q=Q (some (.int (nar .boolean z))) H:=w_iretN d2 rfl (by simp)
theorem m5_30:M5 30 (a::.val (.int v1)::ls) st H Q=if v1=7 then M5 36 (a::.val (.int v1)::ls) st H Q else M5 45 (a::.val (.int v1)::ls) st H Q:=(w_x d1 rfl).trans ((w_ki 7 d22 rfl).trans (w_icmpN (dc (.if_icmp .ne 12,3)) (i_ne v1 7) rfl))
theorem m5_36:M5 36 [.val (.ref (b+1)),c,.val (.int v2)] st H Q=M5 41 [.val (.ref (b+1)),c,.val (.int v2)] (.int 31::.int 0::.int v2::.ref (b+1)::st) H Q:=(w_x d0 rfl).trans ((w_x d4 rfl).trans ((w_ki 0 d3 rfl).trans (w_ki 31 d27 rfl)))
theorem m5_41:M5 41 ls [.int a2,.int a1,.int a0,.ref (b+1)] (put (b+1) e s A g) Q=M2 0 [.val (.ref (b+1)),.val (.int a0),.val (.int a1),.val (.int a2)] [] (put (b+1) e s A g) (fun v H1 => M5 44 ls (v.toList ++ []) H1 Q):=wv [.int a2,.int a1,.int a0] [] d18 cr5_126 rfl rfl rfl rfl rfl
theorem m5_44:M5 44 ls (.int z::st) H Q=Q (some (.int (nar .boolean z))) H:=w_iretN d2 rfl (by simp)
theorem m5_45:M5 45 ls st H Q=M5 46 ls (.int 1::st) H Q:=w_con d5 rfl (by decide)
theorem m5_46:M5 46 ls (.int z::st) H Q=Q (some (.int (nar .boolean z))) H:=w_iretN d2 rfl (by simp)
theorem m6_0:M6 0 (.val (.ref (b+1))::.val (.int v1)::ls) st H Q=M6 4 (.val (.ref (b+1))::.val (.int v1)::ls) (.int 3::.int 0::.int v1::.ref (b+1)::st) H Q:=(w_x d0 rfl).trans ((w_x d1 rfl).trans ((w_ki 0 d3 rfl).trans (w_ki 3 d15 rfl)))
theorem cr6_126:vR tables_1 dn y6 126=some (true,y2,prog_1_method_64_code,4,(some .boolean),3,0):=cp ⟨[.int,.int,.int],some .boolean⟩ rc_2 dn_2 dn_6
theorem m6_4:M6 4 ls [.int a2,.int a1,.int a0,.ref (b+1)] (put (b+1) e s A g) Q=M2 0 [.val (.ref (b+1)),.val (.int a0),.val (.int a1),.val (.int a2)] [] (put (b+1) e s A g) (fun v H1 => M6 7 ls (v.toList ++ []) H1 Q):=wv [.int a2,.int a1,.int a0] [] d18 cr6_126 rfl rfl rfl rfl rfl
theorem m6_7:M6 7 ls (.int x::st) H Q=if x=0 then M6 10 ls st H Q else M6 12 ls st H Q:=w_ifN d10 (z_ne x) rfl
theorem m6_10:M6 10 ls st H Q=M6 11 ls (.int 0::st) H Q:=w_con d3 rfl (by decide)
theorem m6_11:M6 11 ls (.int z::st) H Q=Q (some (.int (nar .boolean z))) H:=w_iretN d2 rfl (by simp)
theorem m6_12:M6 12 (.val (.ref (b+1))::.val (.int v1)::ls) st (put (b+1) e s A g) Q=(inB v1 (A 7)∧M6 18 (.val (.ref (b+1))::.val (.int v1)::ls) (.int (getA (A 7) v1)::st) (put (b+1) e s A g) Q):=(w_x d0 rfl).trans ((w_get d33 gf_31 put_o rfl).trans ((w_x d1 rfl).trans (w_ild d7 rfl put_a7)))
theorem m6_18:M6 18 ls (.int x::st) H Q=if x=0 then M6 21 ls st H Q else M6 23 ls st H Q:=w_ifN d10 (z_ne x) rfl
theorem m6_21:M6 21 ls st H Q=M6 22 ls (.int 0::st) H Q:=w_con d3 rfl (by decide)
theorem m6_22:M6 22 ls (.int z::st) H Q=Q (some (.int (nar .boolean z))) H:=w_iretN d2 rfl (by simp)
theorem m6_23:M6 23 (.val (.ref (b+1))::c::.val (.int v2)::ls) st H Q=M6 28 (.val (.ref (b+1))::c::.val (.int v2)::ls) (.int 31::.int 0::.int v2::.ref (b+1)::st) H Q:=(w_x d0 rfl).trans ((w_x d4 rfl).trans ((w_ki 0 d3 rfl).trans (w_ki 31 d27 rfl)))
theorem m6_28:M6 28 ls [.int a2,.int a1,.int a0,.ref (b+1)] (put (b+1) e s A g) Q=M2 0 [.val (.ref (b+1)),.val (.int a0),.val (.int a1),.val (.int a2)] [] (put (b+1) e s A g) (fun v H1 => M6 31 ls (v.toList ++ []) H1 Q):=wv [.int a2,.int a1,.int a0] [] d18 cr6_126 rfl rfl rfl rfl rfl
theorem m6_31:M6 31 ls (.int x::st) H Q=if x=0 then M6 34 ls st H Q else M6 36 ls st H Q:=w_ifN d10 (z_ne x) rfl
theorem m6_34:M6 34 ls st H Q=M6 35 ls (.int 0::st) H Q:=w_con d3 rfl (by decide)
theorem m6_35:M6 35 ls (.int z::st) H Q=Q (some (.int (nar .boolean z))) H:=w_iretN d2 rfl (by simp)
theorem m6_36:M6 36 (a::c::d::.val (.int v3)::ls) st H Q=if v3=0 then M6 47 (a::c::d::.val (.int v3)::ls) st H Q else M6 40 (a::c::d::.val (.int v3)::ls) st H Q:=(w_x d6 rfl).trans (w_if (dc (.ifCond .eq 10,3)) (z_eq v3) rfl)
theorem m6_40:M6 40 (a::c::d::.val (.int v3)::ls) st H Q=if v3=1 then M6 47 (a::c::d::.val (.int v3)::ls) st H Q else M6 45 (a::c::d::.val (.int v3)::ls) st H Q:=(w_x d6 rfl).trans ((w_ki 1 d5 rfl).trans (w_icmp (dc (.if_icmp .eq 5,3)) (i_eq v3 1) rfl))
theorem m6_45:M6 45 ls st H Q=M6 46 ls (.int 0::st) H Q:=w_con d3 rfl (by decide)
theorem m6_46:M6 46 ls (.int z::st) H Q=Q (some (.int (nar .boolean z))) H:=w_iretN d2 rfl (by simp)
theorem m6_47:M6 47 (.val (.ref (b+1))::c::.val (.int v2)::ls) st H Q=M6 49 (.val (.ref (b+1))::c::.val (.int v2)::ls) (.int v2::.ref (b+1)::st) H Q:=(w_x d0 rfl).trans (w_x d4 rfl)
theorem cr6_232:vR tables_1 dn y6 232=some (true,y28,prog_1_method_33_code,3,(some .int),1,1):=cp ⟨[.int],some .int⟩ rc_28 dn_28 dn_6
theorem m6_49:M6 49 ls [.int a0,.ref (b+1)] (put (b+1) e s A g) Q=M28 0 [.val (.ref (b+1)),.val (.int a0),.unset] [] (put (b+1) e s A g) (fun v H1 => M6 52 ls (v.toList ++ []) H1 Q):=wv [.int a0] [] (dc (.invokevirtual 232,3)) cr6_232 rfl rfl rfl rfl rfl
theorem m6_52u:M6 52 [a,c,d,f,.unset] ((.int v)::st) H Q=M6 54 [a,c,d,f,.val (.int v)] st H Q:=ws 4 d23 rfl rfl rfl rfl rfl rfl
theorem m6_54:M6 54 [a,c,d,f,.val (.int v4)] st H Q=if v4 < 0 then M6 67 [a,c,d,f,.val (.int v4)] st H Q else M6 59 [a,c,d,f,.val (.int v4)] st H Q:=(w_x d11 rfl).trans (w_if (dc (.ifCond .lt 11,3)) (z_lt v4) rfl)
theorem m6_59:M6 59 [a,.val (.int v1),d,f,.val (.int v4)] st H Q=if v4=v1 then M6 67 [a,.val (.int v1),d,f,.val (.int v4)] st H Q else M6 65 [a,.val (.int v1),d,f,.val (.int v4)] st H Q:=(w_x d11 rfl).trans ((w_x d1 rfl).trans (w_icmp (dc (.if_icmp .eq 5,3)) (i_eq v4 v1) rfl))
theorem m6_65:M6 65 ls st H Q=M6 66 ls (.int 0::st) H Q:=w_con d3 rfl (by decide)
theorem m6_66:M6 66 ls (.int z::st) H Q=Q (some (.int (nar .boolean z))) H:=w_iretN d2 rfl (by simp)
theorem m6_67:M6 67 (.val (.ref (b+1))::.val (.int v1)::ls) st (put (b+1) e s A g) Q=(inB v1 (A 7)∧M6 74 (.val (.ref (b+1))::.val (.int v1)::ls) st (put (b+1) e s (ou A 7 (setA (A 7) v1 2)) g) Q):=(w_x d0 rfl).trans ((w_get d33 gf_31 put_o rfl).trans ((w_x d1 rfl).trans ((w_ki 2 d20 rfl).trans (w_ist d8 rfl put_a7 (by omega) rfl put_w7))))
theorem m6_74:M6 74 (.val (.ref (b+1))::.val (.int v1)::.val (.int v2)::ls) st (put (b+1) e s A g) Q=(inB v1 (A 8)∧M6 81 (.val (.ref (b+1))::.val (.int v1)::.val (.int v2)::ls) st (put (b+1) e s (ou A 8 (setA (A 8) v1 v2)) g) Q):=(w_x d0 rfl).trans ((w_get (dc (.getfield 34,3)) gf_34 put_o rfl).trans ((w_x d1 rfl).trans ((w_x d4 rfl).trans (w_ist d8 rfl put_a8 (by omega) rfl put_w8))))
theorem m6_81:M6 81 (.val (.ref (b+1))::.val (.int v1)::d::.val (.int v3)::ls) st (put (b+1) e s A g) Q=(inB v1 (A 9)∧M6 88 (.val (.ref (b+1))::.val (.int v1)::d::.val (.int v3)::ls) st (put (b+1) e s (ou A 9 (setA (A 9) v1 v3)) g) Q):=(w_x d0 rfl).trans ((w_get (dc (.getfield 37,3)) gf_37 put_o rfl).trans ((w_x d1 rfl).trans ((w_x d6 rfl).trans (w_ist d8 rfl put_a9 (by omega) rfl put_w9))))
theorem m6_88:M6 88 (.val (.ref (b+1))::.val (.int v1)::ls) st (put (b+1) e s A g) Q=(inB v1 (A 10)∧M6 95 (.val (.ref (b+1))::.val (.int v1)::ls) st (put (b+1) e s (ou A 10 (setA (A 10) v1 0)) g) Q):=(w_x d0 rfl).trans ((w_get (dc (.getfield 40,3)) gf_40 put_o rfl).trans ((w_x d1 rfl).trans ((w_ki 0 d3 rfl).trans (w_ist d8 rfl put_a10 (by omega) rfl put_w10))))
theorem m6_95:M6 95 ls st H Q=M6 96 ls (.int 1::st) H Q:=w_con d5 rfl (by decide)
theorem m6_96:M6 96 ls (.int z::st) H Q=Q (some (.int (nar .boolean z))) H:=w_iretN d2 rfl (by simp)
theorem m7_0:M7 0 (.val (.ref (b+1))::ls) st (put (b+1) e s A g) Q=if (s 7) < 0 then M7 16 (.val (.ref (b+1))::ls) st (put (b+1) e s A g) Q else M7 7 (.val (.ref (b+1))::ls) st (put (b+1) e s A g) Q:=(w_x d0 rfl).trans ((w_get (dc (.getfield 144,3)) gf_144 put_o rfl).trans (w_if (dc (.ifCond .lt 12,3)) (z_lt (s 7)) rfl))
theorem m7_7:M7 7 (.val (.ref (b+1))::ls) st (put (b+1) e s A g) Q=if (s 7) < 32 then M7 18 (.val (.ref (b+1))::ls) st (put (b+1) e s A g) Q else M7 16 (.val (.ref (b+1))::ls) st (put (b+1) e s A g) Q:=(w_x d0 rfl).trans ((w_get (dc (.getfield 144,3)) gf_144 put_o rfl).trans ((w_ki 32 d16 rfl).trans (w_icmp (dc (.if_icmp .lt 5,3)) (i_lt (s 7) 32) rfl)))
theorem m7_16:M7 16 ls st H Q=M7 17 ls (.int 0::st) H Q:=w_con d3 rfl (by decide)
theorem m7_17:M7 17 ls (.int z::st) H Q=Q (some (.int (nar .boolean z))) H:=w_iretN d2 rfl (by simp)
theorem m7_18:M7 18 (.val (.ref (b+1))::.val (.int v1)::ls) st H Q=M7 23 (.val (.ref (b+1))::.val (.int v1)::ls) (.int 20::.int 0::.int v1::.ref (b+1)::st) H Q:=(w_x d0 rfl).trans ((w_x d1 rfl).trans ((w_ki 0 d3 rfl).trans (w_ki 20 (dc (.bipush 20,2)) rfl)))
theorem cr7_126:vR tables_1 dn y7 126=some (true,y2,prog_1_method_64_code,4,(some .boolean),3,0):=cp ⟨[.int,.int,.int],some .boolean⟩ rc_2 dn_2 dn_7
theorem m7_23:M7 23 ls [.int a2,.int a1,.int a0,.ref (b+1)] (put (b+1) e s A g) Q=M2 0 [.val (.ref (b+1)),.val (.int a0),.val (.int a1),.val (.int a2)] [] (put (b+1) e s A g) (fun v H1 => M7 26 ls (v.toList ++ []) H1 Q):=wv [.int a2,.int a1,.int a0] [] d18 cr7_126 rfl rfl rfl rfl rfl
theorem m7_26:M7 26 ls (.int x::st) H Q=if x=0 then M7 29 ls st H Q else M7 31 ls st H Q:=w_ifN d10 (z_ne x) rfl
theorem m7_29:M7 29 ls st H Q=M7 30 ls (.int 0::st) H Q:=w_con d3 rfl (by decide)
theorem m7_30:M7 30 ls (.int z::st) H Q=Q (some (.int (nar .boolean z))) H:=w_iretN d2 rfl (by simp)
theorem m7_31:M7 31 (a::.val (.int v1)::ls) st H Q=if v1=1 then M7 36 (a::.val (.int v1)::ls) st H Q else M7 49 (a::.val (.int v1)::ls) st H Q:=(w_x d1 rfl).trans ((w_ki 1 d5 rfl).trans (w_icmpN (dc (.if_icmp .ne 16,3)) (i_ne v1 1) rfl))
theorem m7_36:M7 36 [.val (.ref (b+1)),c,.val (.int v2)] st H Q=M7 41 [.val (.ref (b+1)),c,.val (.int v2)] (.int 7::.int 0::.int v2::.ref (b+1)::st) H Q:=(w_x d0 rfl).trans ((w_x d4 rfl).trans ((w_ki 0 d3 rfl).trans (w_ki 7 d22 rfl)))
theorem m7_41:M7 41 ls [.int a2,.int a1,.int a0,.ref (b+1)] (put (b+1) e s A g) Q=M2 0 [.val (.ref (b+1)),.val (.int a0),.val (.int a1),.val (.int a2)] [] (put (b+1) e s A g) (fun v H1 => M7 44 ls (v.toList ++ []) H1 Q):=wv [.int a2,.int a1,.int a0] [] d18 cr7_126 rfl rfl rfl rfl rfl
theorem m7_44:M7 44 ls (.int x::st) H Q=if x=0 then M7 47 ls st H Q else M7 49 ls st H Q:=w_ifN d10 (z_ne x) rfl
theorem m7_47:M7 47 ls st H Q=M7 48 ls (.int 0::st) H Q:=w_con d3 rfl (by decide)
theorem m7_48:M7 48 ls (.int z::st) H Q=Q (some (.int (nar .boolean z))) H:=w_iretN d2 rfl (by simp)
theorem m7_49:M7 49 (.val (.ref (b+1))::.val (.int v1)::ls) st (put (b+1) e s A g) Q=(inB (s 7) (A 5)∧M7 59 (.val (.ref (b+1))::.val (.int v1)::ls) st (put (b+1) e s (ou A 5 (setA (A 5) (s 7) v1)) g) Q):=(w_x d0 rfl).trans ((w_get (dc (.getfield 25,3)) gf_25 put_o rfl).trans ((w_x d0 rfl).trans ((w_get (dc (.getfield 144,3)) gf_144 put_o rfl).trans ((w_x d1 rfl).trans (w_ist d8 rfl put_a5 (by omega) rfl put_w5)))))
theorem m7_59:M7 59 (a::.val (.int v1)::ls) st H Q=if v1=0 then M7 68 (a::.val (.int v1)::ls) st H Q else M7 63 (a::.val (.int v1)::ls) st H Q:=(w_x d1 rfl).trans (w_if (dc (.ifCond .eq 8,3)) (z_eq v1) rfl)
theorem m7_63:M7 63 (a::.val (.int v1)::ls) st H Q=if v1=1 then M7 68 (a::.val (.int v1)::ls) st H Q else M7 81 (a::.val (.int v1)::ls) st H Q:=(w_x d1 rfl).trans ((w_ki 1 d5 rfl).trans (w_icmpN (dc (.if_icmp .ne 16,3)) (i_ne v1 1) rfl))
theorem m7_68:M7 68 [.val (.ref (b+1)),c,.val (.int v2)] st (put (b+1) e s A g) Q=(inB (s 7) (A 6)∧M7 78 [.val (.ref (b+1)),c,.val (.int v2)] st (put (b+1) e s (ou A 6 (setA (A 6) (s 7) v2)) g) Q):=(w_x d0 rfl).trans ((w_get (dc (.getfield 28,3)) gf_28 put_o rfl).trans ((w_x d0 rfl).trans ((w_get (dc (.getfield 144,3)) gf_144 put_o rfl).trans ((w_x d4 rfl).trans (w_ist d8 rfl put_a6 (by omega) rfl put_w6)))))
theorem m7_78:M7 78 ls st H Q=M7 91 ls st H Q:=w_x (dc (.goto 13,3)) rfl
theorem m7_81:M7 81 (.val (.ref (b+1))::ls) st (put (b+1) e s A g) Q=(inB (s 7) (A 6)∧M7 91 (.val (.ref (b+1))::ls) st (put (b+1) e s (ou A 6 (setA (A 6) (s 7) 0)) g) Q):=(w_x d0 rfl).trans ((w_get (dc (.getfield 28,3)) gf_28 put_o rfl).trans ((w_x d0 rfl).trans ((w_get (dc (.getfield 144,3)) gf_144 put_o rfl).trans ((w_ki 0 d3 rfl).trans (w_ist d8 rfl put_a6 (by omega) rfl put_w6)))))
theorem pf7_144:pfR tables_1 y7.cls y7.name 144=some ("AgentExprDbg", 37,.int):=by decide +kernel
theorem m7_91:M7 91 (.val (.ref (b+1))::ls) st (put (b+1) e s A g) Q=M7 101 (.val (.ref (b+1))::ls) st (put (b+1) e (ou s 7 (((s 7)+1))) A g) Q:=(w_x d0 rfl).trans ((w_x d0 rfl).trans ((w_get (dc (.getfield 144,3)) gf_144 put_o rfl).trans ((w_ki 1 d5 rfl).trans ((w_x d9 rfl).trans (w_put (dc (.putfield 144,3)) pf7_144 put_o (Nat.succ_le_succ (Nat.zero_le _)) (by show 37 < 60; omega) rfl put_s7)))))
theorem m7_101:M7 101 ls st H Q=M7 102 ls (.int 1::st) H Q:=w_con d5 rfl (by decide)
theorem m7_102:M7 102 ls (.int z::st) H Q=Q (some (.int (nar .boolean z))) H:=w_iretN d2 rfl (by simp)
theorem m8_0:M8 0 (.val (.ref (b+1))::.val (.int v1)::ls) st H Q=M8 2 (.val (.ref (b+1))::.val (.int v1)::ls) (.int v1::.ref (b+1)::st) H Q:=(w_x d0 rfl).trans (w_x d1 rfl)
theorem cr8_147:vR tables_1 dn y8 147=some (true,y9,prog_1_method_11_code,2,(some .int),1,0):=cp ⟨[.int],some .int⟩ rc_9 dn_9 dn_8
theorem m8_2:M8 2 ls [.int a0,.ref (b+1)] (put (b+1) e s A g) Q=M9 0 [.val (.ref (b+1)),.val (.int a0)] [] (put (b+1) e s A g) (fun v H1 => M8 5 ls (v.toList ++ []) H1 Q):=wv [.int a0] [] (dc (.invokevirtual 147,3)) cr8_147 rfl rfl rfl rfl rfl
theorem m8_5u:M8 5 [a,c,.unset] ((.int v)::st) H Q=M8 6 [a,c,.val (.int v)] st H Q:=ws 2 d25 rfl rfl rfl rfl rfl rfl
theorem pf8_144:pfR tables_1 y8.cls y8.name 144=some ("AgentExprDbg", 37,.int):=by decide +kernel
theorem m8_6:M8 6 (.val (.ref (b+1))::ls) st (put (b+1) e s A g) Q=M8 11 (.val (.ref (b+1))::ls) st (put (b+1) e (ou s 7 0) A g) Q:=(w_x d0 rfl).trans ((w_ki 0 d3 rfl).trans (w_put (dc (.putfield 144,3)) pf8_144 put_o (Nat.succ_le_succ (Nat.zero_le _)) (by show 37 < 60; omega) rfl put_s7))
theorem m8_11:M8 11 [a,c,.val (.int v)] st H Q=M8 12 [a,c,.val (.int v)] (.int v::st) H Q:=w_x d4 rfl
theorem m8_12:M8 12 ls (.int z::st) H Q=Q (some (.int z)) H:=w_iret d2 rfl
theorem m9_0:M9 0 [.val (.ref (b+1)),.val (.int v1)] st H Q=M9 4 [.val (.ref (b+1)),.val (.int v1)] (.int 3::.int 0::.int v1::.ref (b+1)::st) H Q:=(w_x d0 rfl).trans ((w_x d1 rfl).trans ((w_ki 0 d3 rfl).trans (w_ki 3 d15 rfl)))
theorem cr9_126:vR tables_1 dn y9 126=some (true,y2,prog_1_method_64_code,4,(some .boolean),3,73):=cp ⟨[.int,.int,.int],some .boolean⟩ rc_2 dn_2 dn_9
theorem m9_4:M9 4 ls [.int a2,.int a1,.int a0,.ref (b+1)] (put (b+1) e s A g) Q=M2 0 [.val (.ref (b+1)),.val (.int a0),.val (.int a1),.val (.int a2)] [] (put (b+1) e s A g) (fun v H1 => M9 7 ls (v.toList ++ []) H1 Q):=wv [.int a2,.int a1,.int a0] [] d18 cr9_126 rfl rfl rfl rfl rfl
theorem m9_7:M9 7 ls (.int x::st) H Q=if x=0 then M9 10 ls st H Q else M9 12 ls st H Q:=w_ifN d10 (z_ne x) rfl
theorem m9_10:M9 10 ls st H Q=M9 11 ls (.int 4::st) H Q:=w_con d12 rfl (by decide)
theorem m9_11:M9 11 ls (.int z::st) H Q=Q (some (.int z)) H:=w_iret d2 rfl
theorem m9_12:M9 12 (.val (.ref r)::ls) st H Q=M9 13 (.val (.ref r)::ls) (.ref r::st) H Q:=w_x d0 rfl
theorem cr9_151:vR tables_1 dn y9 151=some (true,y10,prog_1_method_12_code,5,(some .boolean),0,0):=cp ⟨[],some .boolean⟩ rc_10 dn_10 dn_9
theorem m9_13:M9 13 ls [.ref (b+1)] (put (b+1) e s A g) Q=M10 0 [.val (.ref (b+1)),.unset,.unset,.unset,.unset] [] (put (b+1) e s A g) (fun v H1 => M9 16 ls (v.toList ++ []) H1 Q):=wv [] [] (dc (.invokevirtual 151,3)) cr9_151 rfl rfl rfl rfl rfl
theorem m9_16:M9 16 ls (.int x::st) H Q=if x=0 then M9 19 ls st H Q else M9 21 ls st H Q:=w_ifN d10 (z_ne x) rfl
theorem m9_19:M9 19 ls st H Q=M9 20 ls (.int 1::st) H Q:=w_con d5 rfl (by decide)
theorem m9_20:M9 20 ls (.int z::st) H Q=Q (some (.int z)) H:=w_iret d2 rfl
theorem m9_21:M9 21 (.val (.ref (b+1))::ls) st (put (b+1) e s A g) Q=if 4 < (s 9) then M9 29 (.val (.ref (b+1))::ls) st (put (b+1) e s A g) Q else M9 31 (.val (.ref (b+1))::ls) st (put (b+1) e s A g) Q:=(w_x d0 rfl).trans ((w_get (dc (.getfield 155,3)) gf_155 put_o rfl).trans ((w_ki 4 d12 rfl).trans (w_icmpN (dc (.if_icmp .le 5,3)) (i_le (s 9) 4) rfl)))
theorem m9_29:M9 29 ls st H Q=M9 30 ls (.int 2::st) H Q:=w_con d20 rfl (by decide)
theorem m9_30:M9 30 ls (.int z::st) H Q=Q (some (.int z)) H:=w_iret d2 rfl
theorem m9_31:M9 31 (.val (.ref (b+1))::ls) st (put (b+1) e s A g) Q=if 6 < (s 11) then M9 40 (.val (.ref (b+1))::ls) st (put (b+1) e s A g) Q else M9 42 (.val (.ref (b+1))::ls) st (put (b+1) e s A g) Q:=(w_x d0 rfl).trans ((w_get (dc (.getfield 158,3)) gf_158 put_o rfl).trans ((w_ki 6 (dc (.bipush 6,2)) rfl).trans (w_icmpN (dc (.if_icmp .le 5,3)) (i_le (s 11) 6) rfl)))
theorem m9_40:M9 40 ls st H Q=M9 41 ls (.int 3::st) H Q:=w_con d15 rfl (by decide)
theorem m9_41:M9 41 ls (.int z::st) H Q=Q (some (.int z)) H:=w_iret d2 rfl
theorem m9_42:M9 42 [.val (.ref (b+1)),.val (.int v1)] st H Q=M9 44 [.val (.ref (b+1)),.val (.int v1)] (.int v1::.ref (b+1)::st) H Q:=(w_x d0 rfl).trans (w_x d1 rfl)
theorem cr9_161:vR tables_1 dn y9 161=some (true,y18,prog_1_method_30_code,5,none,1,57):=cp ⟨[.int],none⟩ rc_18 dn_18 dn_9
theorem m9_44:M9 44 ls [.int a0,.ref (b+1)] (put (b+1) e s A g) Q=M18 0 [.val (.ref (b+1)),.val (.int a0),.unset,.unset,.unset] [] (put (b+1) e s A g) (fun v H1 => M9 47 ls (v.toList ++ []) H1 Q):=wv [.int a0] [] (dc (.invokevirtual 161,3)) cr9_161 rfl rfl rfl rfl rfl
theorem m9_47:M9 47 ls st H Q=M9 48 ls (.int 0::st) H Q:=w_con d3 rfl (by decide)
theorem m9_48:M9 48 ls (.int z::st) H Q=Q (some (.int z)) H:=w_iret d2 rfl
theorem m10_0:M10 0 (.val (.ref r)::ls) st H Q=M10 1 (.val (.ref r)::ls) (.ref r::st) H Q:=w_x d0 rfl
theorem cr10_165:vR tables_1 dn y10 165=some (true,y11,prog_1_method_13_code,1,none,0,60):=cp ⟨[],none⟩ rc_11 dn_11 dn_10
theorem m10_1:M10 1 ls [.ref (b+1)] (put (b+1) e s A g) Q=M11 0 [.val (.ref (b+1))] [] (put (b+1) e s A g) (fun v H1 => M10 4 ls (v.toList ++ []) H1 Q):=wv [] [] (dc (.invokevirtual 165,3)) cr10_165 rfl rfl rfl rfl rfl
theorem m10_4:M10 4 (.val (.ref (b+1))::ls) st (put (b+1) e s A g) Q=if 0 < (s 7) then M10 13 (.val (.ref (b+1))::ls) st (put (b+1) e s A g) Q else M10 11 (.val (.ref (b+1))::ls) st (put (b+1) e s A g) Q:=(w_x d0 rfl).trans ((w_get (dc (.getfield 144,3)) gf_144 put_o rfl).trans (w_if (dc (.ifCond .gt 5,3)) (z_gt (s 7)) rfl))
theorem m10_11:M10 11 ls st H Q=M10 12 ls (.int 0::st) H Q:=w_con d3 rfl (by decide)
theorem m10_12:M10 12 ls (.int z::st) H Q=Q (some (.int (nar .boolean z))) H:=w_iretN d2 rfl (by simp)
theorem m10_13:M10 13 (a::.unset::ls) st H Q=M10 15 (a::.val (.int 0)::ls) st H Q:=(w_ki 0 d3 rfl).trans (ws 1 (dc (.istore_n 1,1)) rfl rfl rfl rfl rfl rfl)
theorem m10_15:M10 15 (a::.val (.int v1)::ls) st H Q=if v1 < 32 then M10 21 (a::.val (.int v1)::ls) st H Q else M10 79 (a::.val (.int v1)::ls) st H Q:=(w_x d1 rfl).trans ((w_ki 32 d16 rfl).trans (w_icmpN (dc (.if_icmp .ge 61,3)) (i_ge v1 32) rfl))
theorem m10_21:M10 21 (.val (.ref (b+1))::.val (.int v1)::ls) st (put (b+1) e s A g) Q=if v1 < (s 7) then M10 29 (.val (.ref (b+1))::.val (.int v1)::ls) st (put (b+1) e s A g) Q else M10 79 (.val (.ref (b+1))::.val (.int v1)::ls) st (put (b+1) e s A g) Q:=(w_x d1 rfl).trans ((w_x d0 rfl).trans ((w_get (dc (.getfield 144,3)) gf_144 put_o rfl).trans (w_icmpN (dc (.if_icmp .ge 53,3)) (i_ge v1 (s 7)) rfl)))
theorem m10_29:M10 29 (.val (.ref (b+1))::.val (.int v1)::ls) st (put (b+1) e s A g) Q=(inB v1 (A 5)∧M10 35 (.val (.ref (b+1))::.val (.int v1)::ls) (.int (getA (A 5) v1)::st) (put (b+1) e s A g) Q):=(w_x d0 rfl).trans ((w_get (dc (.getfield 25,3)) gf_25 put_o rfl).trans ((w_x d1 rfl).trans (w_ild d7 rfl put_a5)))
theorem m10_35g (h:okS d):M10 35 (a::c::d::ls) ((.int v)::st) H Q=M10 36 (a::c::.val (.int v)::ls) st H Q:=by rcases h with rfl | ⟨z,rfl⟩ <;> exact ws 2 d25 rfl rfl rfl rfl rfl rfl
theorem m10_36:M10 36 (.val (.ref (b+1))::.val (.int v1)::ls) st (put (b+1) e s A g) Q=(inB v1 (A 6)∧M10 42 (.val (.ref (b+1))::.val (.int v1)::ls) (.int (getA (A 6) v1)::st) (put (b+1) e s A g) Q):=(w_x d0 rfl).trans ((w_get (dc (.getfield 28,3)) gf_28 put_o rfl).trans ((w_x d1 rfl).trans (w_ild d7 rfl put_a6)))
theorem m10_42g (h:okS f):M10 42 (a::c::d::f::ls) ((.int v)::st) H Q=M10 43 (a::c::d::.val (.int v)::ls) st H Q:=by rcases h with rfl | ⟨z,rfl⟩ <;> exact ws 3 d17 rfl rfl rfl rfl rfl rfl
theorem m10_43:M10 43 (.val (.ref (b+1))::ls) st (put (b+1) e s A g) Q=if (s 12)=0 then M10 59 (.val (.ref (b+1))::ls) st (put (b+1) e s A g) Q else M10 50 (.val (.ref (b+1))::ls) st (put (b+1) e s A g) Q:=(w_x d0 rfl).trans ((w_get (dc (.getfield 168,3)) gf_168 put_o rfl).trans (w_if d35 (z_eq (s 12)) rfl))
theorem m10_50:M10 50 (.val (.ref (b+1))::c::.val (.int v2)::.val (.int v3)::ls) st H Q=M10 53 (.val (.ref (b+1))::c::.val (.int v2)::.val (.int v3)::ls) (.int v3::.int v2::.ref (b+1)::st) H Q:=(w_x d0 rfl).trans ((w_x d4 rfl).trans (w_x d6 rfl))
theorem cr10_171:vR tables_1 dn y10 171=some (true,y12,prog_1_method_14_code,3,(some .boolean),2,44):=cp ⟨[.int,.int],some .boolean⟩ rc_12 dn_12 dn_10
theorem m10_53:M10 53 ls [.int a1,.int a0,.ref (b+1)] (put (b+1) e s A g) Q=M12 0 [.val (.ref (b+1)),.val (.int a0),.val (.int a1)] [] (put (b+1) e s A g) (fun v H1 => M10 56 ls (v.toList ++ []) H1 Q):=wv [.int a1,.int a0] [] (dc (.invokevirtual 171,3)) cr10_171 rfl rfl rfl rfl rfl
theorem m10_56:M10 56 ls st H Q=M10 64 ls st H Q:=w_x (dc (.goto 8,3)) rfl
theorem m10_59:M10 59 (.val (.ref (b+1))::c::.val (.int v2)::ls) st H Q=M10 61 (.val (.ref (b+1))::c::.val (.int v2)::ls) (.int v2::.ref (b+1)::st) H Q:=(w_x d0 rfl).trans (w_x d4 rfl)
theorem cr10_174:vR tables_1 dn y10 174=some (true,y19,prog_1_method_15_code,2,(some .boolean),1,0):=cp ⟨[.int],some .boolean⟩ rc_19 dn_19 dn_10
theorem m10_61:M10 61 ls [.int a0,.ref (b+1)] (put (b+1) e s A g) Q=M19 0 [.val (.ref (b+1)),.val (.int a0)] [] (put (b+1) e s A g) (fun v H1 => M10 64 ls (v.toList ++ []) H1 Q):=wv [.int a0] [] (dc (.invokevirtual 174,3)) cr10_174 rfl rfl rfl rfl rfl
theorem m10_64g (h:okS k):M10 64 [a,c,d,f,k] ((.int v)::st) H Q=M10 66 [a,c,d,f,.val (.int v)] st H Q:=by rcases h with rfl | ⟨z,rfl⟩ <;> exact ws 4 d23 rfl rfl rfl rfl rfl rfl
theorem m10_66:M10 66 [a,c,d,f,.val (.int v4)] st H Q=if v4=0 then M10 71 [a,c,d,f,.val (.int v4)] st H Q else M10 73 [a,c,d,f,.val (.int v4)] st H Q:=(w_x d11 rfl).trans (w_ifN d10 (z_ne v4) rfl)
theorem m10_71:M10 71 ls st H Q=M10 72 ls (.int 0::st) H Q:=w_con d3 rfl (by decide)
theorem m10_72:M10 72 ls (.int z::st) H Q=Q (some (.int (nar .boolean z))) H:=w_iretN d2 rfl (by simp)
theorem m10_73:M10 73 (a::.val (.int v1)::ls) st H Q=M10 15 (a::.val (.int (v1+1))::ls) st H Q:=(w_iinc (dc (.iinc 1 1,3)) rfl (by decide) rfl).trans (w_x (dc (.goto (-61),3)) rfl)
theorem m10_79:M10 79 (.val (.ref r)::ls) st H Q=M10 80 (.val (.ref r)::ls) (.ref r::st) H Q:=w_x d0 rfl
theorem cr10_178:vR tables_1 dn y10 178=some (true,y15,prog_1_method_22_code,1,(some .boolean),0,16):=cp ⟨[],some .boolean⟩ rc_15 dn_15 dn_10
theorem m10_80:M10 80 ls [.ref (b+1)] (put (b+1) e s A g) Q=M15 0 [.val (.ref (b+1))] [] (put (b+1) e s A g) (fun v H1 => M10 83 ls (v.toList ++ []) H1 Q):=wv [] [] (dc (.invokevirtual 178,3)) cr10_178 rfl rfl rfl rfl rfl
theorem m10_83:M10 83 ls (.int z::st) H Q=Q (some (.int (nar .boolean z))) H:=w_iretN d2 rfl (by simp)
theorem pf11_181:pfR tables_1 y11.cls y11.name 181=some ("AgentExprDbg", 38,.int):=by decide +kernel
theorem m11_0:M11 0 [.val (.ref (b+1))] st (put (b+1) e s A g) Q=M11 5 [.val (.ref (b+1))] st (put (b+1) e (ou s 8 0) A g) Q:=(w_x d0 rfl).trans ((w_ki 0 d3 rfl).trans (w_put (dc (.putfield 181,3)) pf11_181 put_o (Nat.succ_le_succ (Nat.zero_le _)) (by show 38 < 60; omega) rfl put_s8))
theorem pf11_155:pfR tables_1 y11.cls y11.name 155=some ("AgentExprDbg", 39,.int):=by decide +kernel
theorem m11_5:M11 5 [.val (.ref (b+1))] st (put (b+1) e s A g) Q=M11 10 [.val (.ref (b+1))] st (put (b+1) e (ou s 9 0) A g) Q:=(w_x d0 rfl).trans ((w_ki 0 d3 rfl).trans (w_put (dc (.putfield 155,3)) pf11_155 put_o (Nat.succ_le_succ (Nat.zero_le _)) (by show 39 < 60; omega) rfl put_s9))
theorem pf11_184:pfR tables_1 y11.cls y11.name 184=some ("AgentExprDbg", 40,.int):=by decide +kernel
theorem m11_10:M11 10 [.val (.ref (b+1))] st (put (b+1) e s A g) Q=M11 15 [.val (.ref (b+1))] st (put (b+1) e (ou s 10 0) A g) Q:=(w_x d0 rfl).trans ((w_ki 0 d3 rfl).trans (w_put (dc (.putfield 184,3)) pf11_184 put_o (Nat.succ_le_succ (Nat.zero_le _)) (by show 40 < 60; omega) rfl put_s10))
theorem pf11_158:pfR tables_1 y11.cls y11.name 158=some ("AgentExprDbg", 41,.int):=by decide +kernel
theorem m11_15:M11 15 [.val (.ref (b+1))] st (put (b+1) e s A g) Q=M11 20 [.val (.ref (b+1))] st (put (b+1) e (ou s 11 0) A g) Q:=(w_x d0 rfl).trans ((w_ki 0 d3 rfl).trans (w_put (dc (.putfield 158,3)) pf11_158 put_o (Nat.succ_le_succ (Nat.zero_le _)) (by show 41 < 60; omega) rfl put_s11))
theorem pf11_168:pfR tables_1 y11.cls y11.name 168=some ("AgentExprDbg", 42,.boolean):=by decide +kernel
theorem m11_20:M11 20 [.val (.ref (b+1))] st (put (b+1) e s A g) Q=M11 25 [.val (.ref (b+1))] st (put (b+1) e (ou s 12 (nar .boolean 1)) A g) Q:=(w_x d0 rfl).trans ((w_ki 1 d5 rfl).trans (w_put (dc (.putfield 168,3)) pf11_168 put_o (Nat.succ_le_succ (Nat.zero_le _)) (by show 42 < 60; omega) rfl put_s12))
theorem pf11_187:pfR tables_1 y11.cls y11.name 187=some ("AgentExprDbg", 43,.int):=by decide +kernel
theorem m11_25:M11 25 [.val (.ref (b+1))] st (put (b+1) e s A g) Q=M11 30 [.val (.ref (b+1))] st (put (b+1) e (ou s 13 0) A g) Q:=(w_x d0 rfl).trans ((w_ki 0 d3 rfl).trans (w_put (dc (.putfield 187,3)) pf11_187 put_o (Nat.succ_le_succ (Nat.zero_le _)) (by show 43 < 60; omega) rfl put_s13))
theorem pf11_190:pfR tables_1 y11.cls y11.name 190=some ("AgentExprDbg", 44,.int):=by decide +kernel
theorem m11_30:M11 30 [.val (.ref (b+1))] st (put (b+1) e s A g) Q=M11 35 [.val (.ref (b+1))] st (put (b+1) e (ou s 14 0) A g) Q:=(w_x d0 rfl).trans ((w_ki 0 d3 rfl).trans (w_put (dc (.putfield 190,3)) pf11_190 put_o (Nat.succ_le_succ (Nat.zero_le _)) (by show 44 < 60; omega) rfl put_s14))
theorem m11_35:M11 35 ls [] H Q=Q none H:=w_vret d24 rfl
theorem m12_0:M12 0 (a::.val (.int v1)::ls) st H Q=if v1=0 then M12 9 (a::.val (.int v1)::ls) st H Q else M12 4 (a::.val (.int v1)::ls) st H Q:=(w_x d1 rfl).trans (w_if (dc (.ifCond .eq 8,3)) (z_eq v1) rfl)
theorem m12_4:M12 4 (a::.val (.int v1)::ls) st H Q=if v1=1 then M12 9 (a::.val (.int v1)::ls) st H Q else M12 37 (a::.val (.int v1)::ls) st H Q:=(w_x d1 rfl).trans ((w_ki 1 d5 rfl).trans (w_icmpN (dc (.if_icmp .ne 31,3)) (i_ne v1 1) rfl))
theorem m12_9:M12 9 (.val (.ref (b+1))::ls) st H Q=M12 11 (.val (.ref (b+1))::ls) (.int 1::.ref (b+1)::st) H Q:=(w_x d0 rfl).trans (w_ki 1 d5 rfl)
theorem cr12_193:vR tables_1 dn y12 193=some (true,y13,prog_1_method_24_code,2,(some .boolean),1,1):=cp ⟨[.int],some .boolean⟩ rc_13 dn_13 dn_12
theorem m12_11:M12 11 ls [.int a0,.ref (b+1)] (put (b+1) e s A g) Q=M13 0 [.val (.ref (b+1)),.val (.int a0)] [] (put (b+1) e s A g) (fun v H1 => M12 14 ls (v.toList ++ []) H1 Q):=wv [.int a0] [] (dc (.invokevirtual 193,3)) cr12_193 rfl rfl rfl rfl rfl
theorem m12_14:M12 14 ls (.int x::st) H Q=if x=0 then M12 17 ls st H Q else M12 19 ls st H Q:=w_ifN d10 (z_ne x) rfl
theorem m12_17:M12 17 ls st H Q=M12 18 ls (.int 0::st) H Q:=w_con d3 rfl (by decide)
theorem m12_18:M12 18 ls (.int z::st) H Q=Q (some (.int (nar .boolean z))) H:=w_iretN d2 rfl (by simp)
theorem m12_19:M12 19 [.val (.ref (b+1)),.val (.int v1),.val (.int v2)] st H Q=M12 22 [.val (.ref (b+1)),.val (.int v1),.val (.int v2)] (.int v2::.int v1::.ref (b+1)::st) H Q:=(w_x d0 rfl).trans ((w_x d1 rfl).trans (w_x d4 rfl))
theorem cr12_196:vR tables_1 dn y12 196=some (true,y14,prog_1_method_26_code,3,(some .boolean),2,0):=cp ⟨[.int,.int],some .boolean⟩ rc_14 dn_14 dn_12
theorem m12_22:M12 22 ls [.int a1,.int a0,.ref (b+1)] (put (b+1) e s A g) Q=M14 0 [.val (.ref (b+1)),.val (.int a0),.val (.int a1)] [] (put (b+1) e s A g) (fun v H1 => M12 25 ls (v.toList ++ []) H1 Q):=wv [.int a1,.int a0] [] (dc (.invokevirtual 196,3)) cr12_196 rfl rfl rfl rfl rfl
theorem m12_25:M12 25 ls (.int x::st) H Q=if x=0 then M12 28 ls st H Q else M12 30 ls st H Q:=w_ifN d10 (z_ne x) rfl
theorem m12_28:M12 28 ls st H Q=M12 29 ls (.int 0::st) H Q:=w_con d3 rfl (by decide)
theorem m12_29:M12 29 ls (.int z::st) H Q=Q (some (.int (nar .boolean z))) H:=w_iretN d2 rfl (by simp)
theorem pf12_168:pfR tables_1 y12.cls y12.name 168=some ("AgentExprDbg", 42,.boolean):=by decide +kernel
theorem m12_30:M12 30 (.val (.ref (b+1))::ls) st (put (b+1) e s A g) Q=M12 35 (.val (.ref (b+1))::ls) st (put (b+1) e (ou s 12 (nar .boolean 0)) A g) Q:=(w_x d0 rfl).trans ((w_ki 0 d3 rfl).trans (w_put (dc (.putfield 168,3)) pf12_168 put_o (Nat.succ_le_succ (Nat.zero_le _)) (by show 42 < 60; omega) rfl put_s12))
theorem m12_35:M12 35 ls st H Q=M12 36 ls (.int 1::st) H Q:=w_con d5 rfl (by decide)
theorem m12_36:M12 36 ls (.int z::st) H Q=Q (some (.int (nar .boolean z))) H:=w_iretN d2 rfl (by simp)
theorem m12_37:M12 37 (.val (.ref (b+1))::.val (.int v1)::ls) st H Q=M12 39 (.val (.ref (b+1))::.val (.int v1)::ls) (.int v1::.ref (b+1)::st) H Q:=(w_x d0 rfl).trans (w_x d1 rfl)
theorem cr12_199:vR tables_1 dn y12 199=some (true,y24,prog_1_method_28_code,2,(some .boolean),1,1):=cp ⟨[.int],some .boolean⟩ rc_24 dn_24 dn_12
theorem m12_39:M12 39 ls [.int a0,.ref (b+1)] (put (b+1) e s A g) Q=M24 0 [.val (.ref (b+1)),.val (.int a0)] [] (put (b+1) e s A g) (fun v H1 => M12 42 ls (v.toList ++ []) H1 Q):=wv [.int a0] [] (dc (.invokevirtual 199,3)) cr12_199 rfl rfl rfl rfl rfl
theorem m12_42:M12 42 ls (.int x::st) H Q=if x=0 then M12 45 ls st H Q else M12 50 ls st H Q:=w_ifN (dc (.ifCond .ne 8,3)) (z_ne x) rfl
theorem m12_45:M12 45 (a::.val (.int v1)::ls) st H Q=if v1=2 then M12 50 (a::.val (.int v1)::ls) st H Q else M12 57 (a::.val (.int v1)::ls) st H Q:=(w_x d1 rfl).trans ((w_ki 2 d20 rfl).trans (w_icmpN (dc (.if_icmp .ne 10,3)) (i_ne v1 2) rfl))
theorem m12_50:M12 50 (.val (.ref (b+1))::.val (.int v1)::ls) st H Q=M12 53 (.val (.ref (b+1))::.val (.int v1)::ls) (.int 0::.int v1::.ref (b+1)::st) H Q:=(w_x d0 rfl).trans ((w_x d1 rfl).trans (w_ki 0 d3 rfl))
theorem cr12_202:vR tables_1 dn y12 202=some (true,y23,prog_1_method_25_code,3,(some .boolean),2,0):=cp ⟨[.int,.int],some .boolean⟩ rc_23 dn_23 dn_12
theorem m12_53:M12 53 ls [.int a1,.int a0,.ref (b+1)] (put (b+1) e s A g) Q=M23 0 [.val (.ref (b+1)),.val (.int a0),.val (.int a1)] [] (put (b+1) e s A g) (fun v H1 => M12 56 ls (v.toList ++ []) H1 Q):=wv [.int a1,.int a0] [] (dc (.invokevirtual 202,3)) cr12_202 rfl rfl rfl rfl rfl
theorem m12_56:M12 56 ls (.int z::st) H Q=Q (some (.int (nar .boolean z))) H:=w_iretN d2 rfl (by simp)
theorem m12_57:M12 57 ls st H Q=M12 58 ls (.int 0::st) H Q:=w_con d3 rfl (by decide)
theorem m12_58:M12 58 ls (.int z::st) H Q=Q (some (.int (nar .boolean z))) H:=w_iretN d2 rfl (by simp)
theorem m13_0:M13 0 (.val (.ref (b+1))::ls) st (put (b+1) e s A g) Q=if (s 14) < 0 then M13 16 (.val (.ref (b+1))::ls) st (put (b+1) e s A g) Q else M13 7 (.val (.ref (b+1))::ls) st (put (b+1) e s A g) Q:=(w_x d0 rfl).trans ((w_get d32 gf_190 put_o rfl).trans (w_if (dc (.ifCond .lt 12,3)) (z_lt (s 14)) rfl))
theorem m13_7:M13 7 (.val (.ref (b+1))::ls) st (put (b+1) e s A g) Q=if (s 14) < 32 then M13 18 (.val (.ref (b+1))::ls) st (put (b+1) e s A g) Q else M13 16 (.val (.ref (b+1))::ls) st (put (b+1) e s A g) Q:=(w_x d0 rfl).trans ((w_get d32 gf_190 put_o rfl).trans ((w_ki 32 d16 rfl).trans (w_icmp (dc (.if_icmp .lt 5,3)) (i_lt (s 14) 32) rfl)))
theorem m13_16:M13 16 ls st H Q=M13 17 ls (.int 0::st) H Q:=w_con d3 rfl (by decide)
theorem m13_17:M13 17 ls (.int z::st) H Q=Q (some (.int (nar .boolean z))) H:=w_iretN d2 rfl (by simp)
theorem m13_18:M13 18 [.val (.ref (b+1)),.val (.int v1)] st (put (b+1) e s A g) Q=(inB (s 14) (A 23)∧M13 28 [.val (.ref (b+1)),.val (.int v1)] st (put (b+1) e s (ou A 23 (setA (A 23) (s 14) v1)) g) Q):=(w_x d0 rfl).trans ((w_get (dc (.getfield 79,3)) gf_79 put_o rfl).trans ((w_x d0 rfl).trans ((w_get d32 gf_190 put_o rfl).trans ((w_x d1 rfl).trans (w_ist d8 rfl put_a23 (by omega) rfl put_w23)))))
theorem pf13_190:pfR tables_1 y13.cls y13.name 190=some ("AgentExprDbg", 44,.int):=by decide +kernel
theorem m13_28:M13 28 (.val (.ref (b+1))::ls) st (put (b+1) e s A g) Q=M13 38 (.val (.ref (b+1))::ls) st (put (b+1) e (ou s 14 (((s 14)+1))) A g) Q:=(w_x d0 rfl).trans ((w_x d0 rfl).trans ((w_get d32 gf_190 put_o rfl).trans ((w_ki 1 d5 rfl).trans ((w_x d9 rfl).trans (w_put (dc (.putfield 190,3)) pf13_190 put_o (Nat.succ_le_succ (Nat.zero_le _)) (by show 44 < 60; omega) rfl put_s14)))))
theorem m13_38:M13 38 ls st H Q=M13 39 ls (.int 1::st) H Q:=w_con d5 rfl (by decide)
theorem m13_39:M13 39 ls (.int z::st) H Q=Q (some (.int (nar .boolean z))) H:=w_iretN d2 rfl (by simp)
theorem m14_0:M14 0 (.val (.ref (b+1))::ls) st (put (b+1) e s A g) Q=if (s 8) < 0 then M14 16 (.val (.ref (b+1))::ls) st (put (b+1) e s A g) Q else M14 7 (.val (.ref (b+1))::ls) st (put (b+1) e s A g) Q:=(w_x d0 rfl).trans ((w_get d34 gf_181 put_o rfl).trans (w_if (dc (.ifCond .lt 12,3)) (z_lt (s 8)) rfl))
theorem m14_7:M14 7 (.val (.ref (b+1))::ls) st (put (b+1) e s A g) Q=if (s 8) < 64 then M14 18 (.val (.ref (b+1))::ls) st (put (b+1) e s A g) Q else M14 16 (.val (.ref (b+1))::ls) st (put (b+1) e s A g) Q:=(w_x d0 rfl).trans ((w_get d34 gf_181 put_o rfl).trans ((w_ki 64 d31 rfl).trans (w_icmp (dc (.if_icmp .lt 5,3)) (i_lt (s 8) 64) rfl)))
theorem m14_16:M14 16 ls st H Q=M14 17 ls (.int 0::st) H Q:=w_con d3 rfl (by decide)
theorem m14_17:M14 17 ls (.int z::st) H Q=Q (some (.int (nar .boolean z))) H:=w_iretN d2 rfl (by simp)
theorem m14_18:M14 18 (.val (.ref (b+1))::.val (.int v1)::ls) st (put (b+1) e s A g) Q=(inB (s 8) (A 17)∧M14 28 (.val (.ref (b+1))::.val (.int v1)::ls) st (put (b+1) e s (ou A 17 (setA (A 17) (s 8) v1)) g) Q):=(w_x d0 rfl).trans ((w_get (dc (.getfield 61,3)) gf_61 put_o rfl).trans ((w_x d0 rfl).trans ((w_get d34 gf_181 put_o rfl).trans ((w_x d1 rfl).trans (w_ist d8 rfl put_a17 (by omega) rfl put_w17)))))
theorem m14_28:M14 28 [.val (.ref (b+1)),c,.val (.int v2)] st (put (b+1) e s A g) Q=(inB (s 8) (A 18)∧M14 38 [.val (.ref (b+1)),c,.val (.int v2)] st (put (b+1) e s (ou A 18 (setA (A 18) (s 8) v2)) g) Q):=(w_x d0 rfl).trans ((w_get (dc (.getfield 64,3)) gf_64 put_o rfl).trans ((w_x d0 rfl).trans ((w_get d34 gf_181 put_o rfl).trans ((w_x d4 rfl).trans (w_ist d8 rfl put_a18 (by omega) rfl put_w18)))))
theorem pf14_181:pfR tables_1 y14.cls y14.name 181=some ("AgentExprDbg", 38,.int):=by decide +kernel
theorem m14_38:M14 38 (.val (.ref (b+1))::ls) st (put (b+1) e s A g) Q=M14 48 (.val (.ref (b+1))::ls) st (put (b+1) e (ou s 8 (((s 8)+1))) A g) Q:=(w_x d0 rfl).trans ((w_x d0 rfl).trans ((w_get d34 gf_181 put_o rfl).trans ((w_ki 1 d5 rfl).trans ((w_x d9 rfl).trans (w_put (dc (.putfield 181,3)) pf14_181 put_o (Nat.succ_le_succ (Nat.zero_le _)) (by show 38 < 60; omega) rfl put_s8)))))
theorem m14_48:M14 48 ls st H Q=M14 49 ls (.int 1::st) H Q:=w_con d5 rfl (by decide)
theorem m14_49:M14 49 ls (.int z::st) H Q=Q (some (.int (nar .boolean z))) H:=w_iretN d2 rfl (by simp)
theorem m15_0:M15 0 [.val (.ref (b+1))] st (put (b+1) e s A g) Q=if (s 12)=0 then M15 9 [.val (.ref (b+1))] st (put (b+1) e s A g) Q else M15 7 [.val (.ref (b+1))] st (put (b+1) e s A g) Q:=(w_x d0 rfl).trans ((w_get (dc (.getfield 168,3)) gf_168 put_o rfl).trans (w_if (dc (.ifCond .eq 5,3)) (z_eq (s 12)) rfl))
theorem m15_7:M15 7 ls st H Q=M15 8 ls (.int 0::st) H Q:=w_con d3 rfl (by decide)
theorem m15_8:M15 8 ls (.int z::st) H Q=Q (some (.int (nar .boolean z))) H:=w_iretN d2 rfl (by simp)
theorem m15_9:M15 9 [.val (.ref (b+1))] st H Q=M15 11 [.val (.ref (b+1))] (.int 1::.ref (b+1)::st) H Q:=(w_x d0 rfl).trans (w_ki 1 d5 rfl)
theorem cr15_220:vR tables_1 dn y15 220=some (true,y16,prog_1_method_17_code,4,(some .boolean),1,0):=cp ⟨[.int],some .boolean⟩ rc_16 dn_16 dn_15
theorem m15_11:M15 11 ls [.int a0,.ref (b+1)] (put (b+1) e s A g) Q=M16 0 [.val (.ref (b+1)),.val (.int a0),.unset,.unset] [] (put (b+1) e s A g) (fun v H1 => M15 14 ls (v.toList ++ []) H1 Q):=wv [.int a0] [] (dc (.invokevirtual 220,3)) cr15_220 rfl rfl rfl rfl rfl
theorem m15_14:M15 14 ls (.int x::st) H Q=if x=0 then M15 17 ls st H Q else M15 19 ls st H Q:=w_ifN d10 (z_ne x) rfl
theorem m15_17:M15 17 ls st H Q=M15 18 ls (.int 0::st) H Q:=w_con d3 rfl (by decide)
theorem m15_18:M15 18 ls (.int z::st) H Q=Q (some (.int (nar .boolean z))) H:=w_iretN d2 rfl (by simp)
theorem m15_19:M15 19 [.val (.ref (b+1))] st (put (b+1) e s A g) Q=if (s 13)=0 then M15 28 [.val (.ref (b+1))] st (put (b+1) e s A g) Q else M15 26 [.val (.ref (b+1))] st (put (b+1) e s A g) Q:=(w_x d0 rfl).trans ((w_get d28 gf_187 put_o rfl).trans (w_if (dc (.ifCond .eq 5,3)) (z_eq (s 13)) rfl))
theorem m15_26:M15 26 ls st H Q=M15 27 ls (.int 0::st) H Q:=w_con d3 rfl (by decide)
theorem m15_27:M15 27 ls (.int z::st) H Q=Q (some (.int (nar .boolean z))) H:=w_iretN d2 rfl (by simp)
theorem m15_28:M15 28 [.val (.ref r)] st H Q=M15 29 [.val (.ref r)] (.ref r::st) H Q:=w_x d0 rfl
theorem cr15_229:vR tables_1 dn y15 229=some (true,y17,prog_1_method_21_code,2,(some .boolean),0,31):=cp ⟨[],some .boolean⟩ rc_17 dn_17 dn_15
theorem m15_29:M15 29 ls [.ref (b+1)] (put (b+1) e s A g) Q=M17 0 [.val (.ref (b+1)),.unset] [] (put (b+1) e s A g) (fun v H1 => M15 32 ls (v.toList ++ []) H1 Q):=wv [] [] (dc (.invokevirtual 229,3)) cr15_229 rfl rfl rfl rfl rfl
theorem m15_32:M15 32 ls (.int z::st) H Q=Q (some (.int (nar .boolean z))) H:=w_iretN d2 rfl (by simp)
theorem m16_0:M16 0 (a::c::.unset::ls) st H Q=M16 2 (a::c::.val (.int 0)::ls) st H Q:=(w_ki 0 d3 rfl).trans (ws 2 d25 rfl rfl rfl rfl rfl rfl)
theorem m16_2:M16 2 (a::c::.val (.int v2)::ls) st H Q=if v2 < 32 then M16 8 (a::c::.val (.int v2)::ls) st H Q else M16 80 (a::c::.val (.int v2)::ls) st H Q:=(w_x d4 rfl).trans ((w_ki 32 d16 rfl).trans (w_icmpN (dc (.if_icmp .ge 75,3)) (i_ge v2 32) rfl))
theorem m16_8:M16 8 (.val (.ref (b+1))::ls) st (put (b+1) e s A g) Q=if 0 < (s 13) then M16 15 (.val (.ref (b+1))::ls) st (put (b+1) e s A g) Q else M16 80 (.val (.ref (b+1))::ls) st (put (b+1) e s A g) Q:=(w_x d0 rfl).trans ((w_get d28 gf_187 put_o rfl).trans (w_ifN (dc (.ifCond .le 68,3)) (z_le (s 13)) rfl))
theorem m16_15:M16 15 (.val (.ref (b+1))::ls) st (put (b+1) e s A g) Q=(inB (((s 13) - 1)) (A 21)∧M16 26 (.val (.ref (b+1))::ls) (.int (getA (A 21) (((s 13) - 1)))::st) (put (b+1) e s A g) Q):=(w_x d0 rfl).trans ((w_get (dc (.getfield 73,3)) gf_73 put_o rfl).trans ((w_x d0 rfl).trans ((w_get d28 gf_187 put_o rfl).trans ((w_ki 1 d5 rfl).trans ((w_x d21 rfl).trans (w_ild d7 rfl put_a21))))))
theorem m16_26g (h:okS f):M16 26 [a,c,d,f] ((.int v)::st) H Q=M16 27 [a,c,d,.val (.int v)] st H Q:=by rcases h with rfl | ⟨z,rfl⟩ <;> exact ws 3 d17 rfl rfl rfl rfl rfl rfl
theorem m16_27:M16 27 [a,c,d,.val (.int v3)] st H Q=if v3=2 then M16 32 [a,c,d,.val (.int v3)] st H Q else M16 34 [a,c,d,.val (.int v3)] st H Q:=(w_x d6 rfl).trans ((w_ki 2 d20 rfl).trans (w_icmpN (dc (.if_icmp .ne 5,3)) (i_ne v3 2) rfl))
theorem m16_32:M16 32 ls st H Q=M16 33 ls (.int 1::st) H Q:=w_con d5 rfl (by decide)
theorem m16_33:M16 33 ls (.int z::st) H Q=Q (some (.int (nar .boolean z))) H:=w_iretN d2 rfl (by simp)
theorem m16_34:M16 34 [.val (.ref (b+1)),c,d,.val (.int v3)] st H Q=M16 36 [.val (.ref (b+1)),c,d,.val (.int v3)] (.int v3::.ref (b+1)::st) H Q:=(w_x d0 rfl).trans (w_x d6 rfl)
theorem cr16_217:vR tables_1 dn y16 217=some (true,y22,prog_1_method_27_code,2,(some .int),1,3):=cp ⟨[.int],some .int⟩ rc_22 dn_22 dn_16
theorem m16_36:M16 36 ls [.int a0,.ref (b+1)] (put (b+1) e s A g) Q=M22 0 [.val (.ref (b+1)),.val (.int a0)] [] (put (b+1) e s A g) (fun v H1 => M16 39 ls (v.toList ++ []) H1 Q):=wv [.int a0] [] (dc (.invokevirtual 217,3)) cr16_217 rfl rfl rfl rfl rfl
theorem m16_39:M16 39 (a::.val (.int v)::ls) st H Q=M16 40 (a::.val (.int v)::ls) (.int v::st) H Q:=w_x d1 rfl
theorem m16_40:M16 40 ls (.int y::.int x::st) H Q=if x < y then M16 43 ls st H Q else M16 45 ls st H Q:=w_icmpN (dc (.if_icmp .ge 5,3)) (i_ge x y) rfl
theorem m16_43:M16 43 ls st H Q=M16 44 ls (.int 1::st) H Q:=w_con d5 rfl (by decide)
theorem m16_44:M16 44 ls (.int z::st) H Q=Q (some (.int (nar .boolean z))) H:=w_iretN d2 rfl (by simp)
theorem pf16_187:pfR tables_1 y16.cls y16.name 187=some ("AgentExprDbg", 43,.int):=by decide +kernel
theorem m16_45:M16 45 (.val (.ref (b+1))::ls) st (put (b+1) e s A g) Q=M16 55 (.val (.ref (b+1))::ls) st (put (b+1) e (ou s 13 (((s 13) - 1))) A g) Q:=(w_x d0 rfl).trans ((w_x d0 rfl).trans ((w_get d28 gf_187 put_o rfl).trans ((w_ki 1 d5 rfl).trans ((w_x d21 rfl).trans (w_put (dc (.putfield 187,3)) pf16_187 put_o (Nat.succ_le_succ (Nat.zero_le _)) (by show 43 < 60; omega) rfl put_s13)))))
theorem m16_55:M16 55 [.val (.ref (b+1)),c,d,.val (.int v3)] st (put (b+1) e s A g) Q=(inB (s 13) (A 22)∧M16 66 [.val (.ref (b+1)),c,d,.val (.int v3)] (.int (getA (A 22) (s 13))::.int v3::.ref (b+1)::st) (put (b+1) e s A g) Q):=(w_x d0 rfl).trans ((w_x d6 rfl).trans ((w_x d0 rfl).trans ((w_get (dc (.getfield 76,3)) gf_76 put_o rfl).trans ((w_x d0 rfl).trans ((w_get d28 gf_187 put_o rfl).trans (w_ild d7 rfl put_a22))))))
theorem cr16_223:vR tables_1 dn y16 223=some (true,y25,prog_1_method_18_code,3,(some .boolean),2,0):=cp ⟨[.int,.int],some .boolean⟩ rc_25 dn_25 dn_16
theorem m16_66:M16 66 ls [.int a1,.int a0,.ref (b+1)] (put (b+1) e s A g) Q=M25 0 [.val (.ref (b+1)),.val (.int a0),.val (.int a1)] [] (put (b+1) e s A g) (fun v H1 => M16 69 ls (v.toList ++ []) H1 Q):=wv [.int a1,.int a0] [] (dc (.invokevirtual 223,3)) cr16_223 rfl rfl rfl rfl rfl
theorem m16_69:M16 69 ls (.int x::st) H Q=if x=0 then M16 72 ls st H Q else M16 74 ls st H Q:=w_ifN d10 (z_ne x) rfl
theorem m16_72:M16 72 ls st H Q=M16 73 ls (.int 0::st) H Q:=w_con d3 rfl (by decide)
theorem m16_73:M16 73 ls (.int z::st) H Q=Q (some (.int (nar .boolean z))) H:=w_iretN d2 rfl (by simp)
theorem m16_74:M16 74 (a::c::.val (.int v2)::ls) st H Q=M16 2 (a::c::.val (.int (v2+1))::ls) st H Q:=(w_iinc (dc (.iinc 2 1,3)) rfl (by decide) rfl).trans (w_x (dc (.goto (-75),3)) rfl)
theorem m16_80:M16 80 ls st H Q=M16 81 ls (.int 1::st) H Q:=w_con d5 rfl (by decide)
theorem m16_81:M16 81 ls (.int z::st) H Q=Q (some (.int (nar .boolean z))) H:=w_iretN d2 rfl (by simp)
theorem m17_0:M17 0 (.val (.ref (b+1))::ls) st (put (b+1) e s A g) Q=if (s 14)=1 then M17 10 (.val (.ref (b+1))::ls) st (put (b+1) e s A g) Q else M17 8 (.val (.ref (b+1))::ls) st (put (b+1) e s A g) Q:=(w_x d0 rfl).trans ((w_get d32 gf_190 put_o rfl).trans ((w_ki 1 d5 rfl).trans (w_icmp (dc (.if_icmp .eq 5,3)) (i_eq (s 14) 1) rfl)))
theorem m17_8:M17 8 ls st H Q=M17 9 ls (.int 0::st) H Q:=w_con d3 rfl (by decide)
theorem m17_9:M17 9 ls (.int z::st) H Q=Q (some (.int (nar .boolean z))) H:=w_iretN d2 rfl (by simp)
theorem m17_10:M17 10 (.val (.ref (b+1))::ls) st (put (b+1) e s A g) Q=(inB 0 (A 23)∧M17 16 (.val (.ref (b+1))::ls) (.int (getA (A 23) 0)::st) (put (b+1) e s A g) Q):=(w_x d0 rfl).trans ((w_get (dc (.getfield 79,3)) gf_79 put_o rfl).trans ((w_ki 0 d3 rfl).trans (w_ild d7 rfl put_a23)))
theorem m17_16u:M17 16 [a,.unset] ((.int v)::st) H Q=M17 17 [a,.val (.int v)] st H Q:=ws 1 (dc (.istore_n 1,1)) rfl rfl rfl rfl rfl rfl
theorem m17_17:M17 17 [.val (.ref (b+1)),.val (.int v1)] st (put (b+1) e s A g) Q=if (s 11) < v1 then M17 25 [.val (.ref (b+1)),.val (.int v1)] st (put (b+1) e s A g) Q else M17 30 [.val (.ref (b+1)),.val (.int v1)] st (put (b+1) e s A g) Q:=(w_x d1 rfl).trans ((w_x d0 rfl).trans ((w_get (dc (.getfield 158,3)) gf_158 put_o rfl).trans (w_icmpN (dc (.if_icmp .le 8,3)) (i_le v1 (s 11)) rfl)))
theorem pf17_158:pfR tables_1 y17.cls y17.name 158=some ("AgentExprDbg", 41,.int):=by decide +kernel
theorem m17_25:M17 25 [.val (.ref (b+1)),.val (.int v1)] st (put (b+1) e s A g) Q=M17 30 [.val (.ref (b+1)),.val (.int v1)] st (put (b+1) e (ou s 11 v1) A g) Q:=(w_x d0 rfl).trans ((w_x d1 rfl).trans (w_put (dc (.putfield 158,3)) pf17_158 put_o (Nat.succ_le_succ (Nat.zero_le _)) (by show 41 < 60; omega) rfl put_s11))
theorem m17_30:M17 30 (.val (.ref (b+1))::ls) st (put (b+1) e s A g) Q=if (s 9) < 0 then M17 71 (.val (.ref (b+1))::ls) st (put (b+1) e s A g) Q else M17 37 (.val (.ref (b+1))::ls) st (put (b+1) e s A g) Q:=(w_x d0 rfl).trans ((w_get (dc (.getfield 155,3)) gf_155 put_o rfl).trans (w_if (dc (.ifCond .lt 37,3)) (z_lt (s 9)) rfl))
theorem m17_37:M17 37 (.val (.ref (b+1))::ls) st (put (b+1) e s A g) Q=if (s 9) < 4 then M17 45 (.val (.ref (b+1))::ls) st (put (b+1) e s A g) Q else M17 71 (.val (.ref (b+1))::ls) st (put (b+1) e s A g) Q:=(w_x d0 rfl).trans ((w_get (dc (.getfield 155,3)) gf_155 put_o rfl).trans ((w_ki 4 d12 rfl).trans (w_icmpN (dc (.if_icmp .ge 29,3)) (i_ge (s 9) 4) rfl)))
theorem m17_45:M17 45 (.val (.ref (b+1))::ls) st (put (b+1) e s A g) Q=(inB (s 9) (A 19)∧M17 58 (.val (.ref (b+1))::ls) st (put (b+1) e s (ou A 19 (setA (A 19) (s 9) (s 10))) g) Q):=(w_x d0 rfl).trans ((w_get (dc (.getfield 67,3)) gf_67 put_o rfl).trans ((w_x d0 rfl).trans ((w_get (dc (.getfield 155,3)) gf_155 put_o rfl).trans ((w_x d0 rfl).trans ((w_get (dc (.getfield 184,3)) gf_184 put_o rfl).trans (w_ist d8 rfl put_a19 (by omega) rfl put_w19))))))
theorem m17_58:M17 58 (.val (.ref (b+1))::ls) st (put (b+1) e s A g) Q=(inB (s 9) (A 20)∧M17 71 (.val (.ref (b+1))::ls) st (put (b+1) e s (ou A 20 (setA (A 20) (s 9) (s 8))) g) Q):=(w_x d0 rfl).trans ((w_get (dc (.getfield 70,3)) gf_70 put_o rfl).trans ((w_x d0 rfl).trans ((w_get (dc (.getfield 155,3)) gf_155 put_o rfl).trans ((w_x d0 rfl).trans ((w_get d34 gf_181 put_o rfl).trans (w_ist d8 rfl put_a20 (by omega) rfl put_w20))))))
theorem pf17_155:pfR tables_1 y17.cls y17.name 155=some ("AgentExprDbg", 39,.int):=by decide +kernel
theorem m17_71:M17 71 (.val (.ref (b+1))::ls) st (put (b+1) e s A g) Q=M17 81 (.val (.ref (b+1))::ls) st (put (b+1) e (ou s 9 (((s 9)+1))) A g) Q:=(w_x d0 rfl).trans ((w_x d0 rfl).trans ((w_get (dc (.getfield 155,3)) gf_155 put_o rfl).trans ((w_ki 1 d5 rfl).trans ((w_x d9 rfl).trans (w_put (dc (.putfield 155,3)) pf17_155 put_o (Nat.succ_le_succ (Nat.zero_le _)) (by show 39 < 60; omega) rfl put_s9)))))
theorem pf17_184:pfR tables_1 y17.cls y17.name 184=some ("AgentExprDbg", 40,.int):=by decide +kernel
theorem m17_81:M17 81 (.val (.ref (b+1))::ls) st (put (b+1) e s A g) Q=M17 89 (.val (.ref (b+1))::ls) st (put (b+1) e (ou s 10 (s 8)) A g) Q:=(w_x d0 rfl).trans ((w_x d0 rfl).trans ((w_get d34 gf_181 put_o rfl).trans (w_put (dc (.putfield 184,3)) pf17_184 put_o (Nat.succ_le_succ (Nat.zero_le _)) (by show 40 < 60; omega) rfl put_s10)))
theorem pf17_190:pfR tables_1 y17.cls y17.name 190=some ("AgentExprDbg", 44,.int):=by decide +kernel
theorem m17_89:M17 89 (.val (.ref (b+1))::ls) st (put (b+1) e s A g) Q=M17 94 (.val (.ref (b+1))::ls) st (put (b+1) e (ou s 14 0) A g) Q:=(w_x d0 rfl).trans ((w_ki 0 d3 rfl).trans (w_put (dc (.putfield 190,3)) pf17_190 put_o (Nat.succ_le_succ (Nat.zero_le _)) (by show 44 < 60; omega) rfl put_s14))
theorem m17_94:M17 94 ls st H Q=M17 95 ls (.int 1::st) H Q:=w_con d5 rfl (by decide)
theorem m17_95:M17 95 ls (.int z::st) H Q=Q (some (.int (nar .boolean z))) H:=w_iretN d2 rfl (by simp)
theorem m18_0:M18 0 (.val (.ref (b+1))::.val (.int v1)::ls) st H Q=M18 4 (.val (.ref (b+1))::.val (.int v1)::ls) (.int 3::.int 0::.int v1::.ref (b+1)::st) H Q:=(w_x d0 rfl).trans ((w_x d1 rfl).trans ((w_ki 0 d3 rfl).trans (w_ki 3 d15 rfl)))
theorem cr18_126:vR tables_1 dn y18 126=some (true,y2,prog_1_method_64_code,4,(some .boolean),3,0):=cp ⟨[.int,.int,.int],some .boolean⟩ rc_2 dn_2 dn_18
theorem m18_4:M18 4 ls [.int a2,.int a1,.int a0,.ref (b+1)] (put (b+1) e s A g) Q=M2 0 [.val (.ref (b+1)),.val (.int a0),.val (.int a1),.val (.int a2)] [] (put (b+1) e s A g) (fun v H1 => M18 7 ls (v.toList ++ []) H1 Q):=wv [.int a2,.int a1,.int a0] [] d18 cr18_126 rfl rfl rfl rfl rfl
theorem m18_7:M18 7 ls (.int x::st) H Q=if x=0 then M18 10 ls st H Q else M18 11 ls st H Q:=w_ifN (dc (.ifCond .ne 4,3)) (z_ne x) rfl
theorem m18_10:M18 10 ls [] H Q=Q none H:=w_vret d24 rfl
theorem m18_11:M18 11 (a::.val (.int v1)::.unset::.unset::ls) st H Q=M18 18 (a::.val (.int v1)::.val (.int (v1 * 64))::.val (.int 0)::ls) st H Q:=(w_x d1 rfl).trans ((w_ki 64 d31 rfl).trans ((w_x (dc (.imul,1)) rfl).trans ((ws 2 d25 rfl rfl rfl rfl rfl rfl).trans ((w_ki 0 d3 rfl).trans (ws 3 d17 rfl rfl rfl rfl rfl rfl)))))
theorem m18_18:M18 18 (a::c::d::.val (.int v3)::ls) st H Q=if v3 < 64 then M18 24 (a::c::d::.val (.int v3)::ls) st H Q else M18 91 (a::c::d::.val (.int v3)::ls) st H Q:=(w_x d6 rfl).trans ((w_ki 64 d31 rfl).trans (w_icmpN (dc (.if_icmp .ge 70,3)) (i_ge v3 64) rfl))
theorem m18_24:M18 24 (.val (.ref (b+1))::c::d::.val (.int v3)::ls) st (put (b+1) e s A g) Q=if v3 < (s 8) then M18 32 (.val (.ref (b+1))::c::d::.val (.int v3)::ls) st (put (b+1) e s A g) Q else M18 36 (.val (.ref (b+1))::c::d::.val (.int v3)::ls) st (put (b+1) e s A g) Q:=(w_x d6 rfl).trans ((w_x d0 rfl).trans ((w_get d34 gf_181 put_o rfl).trans (w_icmpN (dc (.if_icmp .ge 7,3)) (i_ge v3 (s 8)) rfl)))
theorem m18_32:M18 32 ls st H Q=M18 37 ls (.int 1::st) H Q:=(w_ki 1 d5 rfl).trans (w_x d14 rfl)
theorem m18_36:M18 36 ls st H Q=M18 37 ls (.int 0::st) H Q:=w_con d3 rfl (by decide)
theorem m18_37g (h:okS k):M18 37 [a,c,d,f,k] ((.int v)::st) H Q=M18 39 [a,c,d,f,.val (.int v)] st H Q:=by rcases h with rfl | ⟨z,rfl⟩ <;> exact ws 4 d23 rfl rfl rfl rfl rfl rfl
theorem m18_39:M18 39 [.val (.ref (b+1)),c,.val (.int v2),.val (.int v3),.val (.int v4)] st (put (b+1) e s A g) Q=if v4=0 then M18 60 [.val (.ref (b+1)),c,.val (.int v2),.val (.int v3),.val (.int v4)] (.int (v2+v3)::.ref ((b+1)+14)::st) (put (b+1) e s A g) Q else M18 51 [.val (.ref (b+1)),c,.val (.int v2),.val (.int v3),.val (.int v4)] (.int (v2+v3)::.ref ((b+1)+14)::st) (put (b+1) e s A g) Q:=(w_x d0 rfl).trans ((w_get (dc (.getfield 49,3)) gf_49 put_o rfl).trans ((w_x d4 rfl).trans ((w_x d6 rfl).trans ((w_x d9 rfl).trans ((w_x d11 rfl).trans (w_if d35 (z_eq v4) rfl))))))
theorem m18_51:M18 51 (.val (.ref (b+1))::c::d::.val (.int v3)::ls) st (put (b+1) e s A g) Q=(inB v3 (A 17)∧M18 57 (.val (.ref (b+1))::c::d::.val (.int v3)::ls) (.int (getA (A 17) v3)::st) (put (b+1) e s A g) Q):=(w_x d0 rfl).trans ((w_get (dc (.getfield 61,3)) gf_61 put_o rfl).trans ((w_x d6 rfl).trans (w_ild d7 rfl put_a17)))
theorem m18_57:M18 57 ls st H Q=M18 61 ls st H Q:=w_x d14 rfl
theorem m18_60:M18 60 ls st H Q=M18 61 ls (.int 0::st) H Q:=w_con d3 rfl (by decide)
theorem m18_61:M18 61 ls (.int v::.int j::.ref ((b+1)+14)::st) (put (b+1) e s A g) Q=(inB j (A 13)∧M18 62 ls st (put (b+1) e s (ou A 13 (setA (A 13) j v)) g) Q):=w_ist d8 rfl put_a13 (by omega) rfl put_w13
theorem m18_62:M18 62 [.val (.ref (b+1)),c,.val (.int v2),.val (.int v3),.val (.int v4)] st (put (b+1) e s A g) Q=if v4=0 then M18 83 [.val (.ref (b+1)),c,.val (.int v2),.val (.int v3),.val (.int v4)] (.int (v2+v3)::.ref ((b+1)+15)::st) (put (b+1) e s A g) Q else M18 74 [.val (.ref (b+1)),c,.val (.int v2),.val (.int v3),.val (.int v4)] (.int (v2+v3)::.ref ((b+1)+15)::st) (put (b+1) e s A g) Q:=(w_x d0 rfl).trans ((w_get (dc (.getfield 52,3)) gf_52 put_o rfl).trans ((w_x d4 rfl).trans ((w_x d6 rfl).trans ((w_x d9 rfl).trans ((w_x d11 rfl).trans (w_if d35 (z_eq v4) rfl))))))
theorem m18_74:M18 74 (.val (.ref (b+1))::c::d::.val (.int v3)::ls) st (put (b+1) e s A g) Q=(inB v3 (A 18)∧M18 80 (.val (.ref (b+1))::c::d::.val (.int v3)::ls) (.int (getA (A 18) v3)::st) (put (b+1) e s A g) Q):=(w_x d0 rfl).trans ((w_get (dc (.getfield 64,3)) gf_64 put_o rfl).trans ((w_x d6 rfl).trans (w_ild d7 rfl put_a18)))
theorem m18_80:M18 80 ls st H Q=M18 84 ls st H Q:=w_x d14 rfl
theorem m18_83:M18 83 ls st H Q=M18 84 ls (.int 0::st) H Q:=w_con d3 rfl (by decide)
theorem m18_84:M18 84 ls (.int v::.int j::.ref ((b+1)+15)::st) (put (b+1) e s A g) Q=(inB j (A 14)∧M18 85 ls st (put (b+1) e s (ou A 14 (setA (A 14) j v)) g) Q):=w_ist d8 rfl put_a14 (by omega) rfl put_w14
theorem m18_85:M18 85 (a::c::d::.val (.int v3)::ls) st H Q=M18 18 (a::c::d::.val (.int (v3+1))::ls) st H Q:=(w_iinc (dc (.iinc 3 1,3)) rfl (by decide) rfl).trans (w_x (dc (.goto (-70),3)) rfl)
theorem m18_91:M18 91 (a::c::d::.val (.int z)::ls) st H Q=M18 93 (a::c::d::.val (.int 0)::ls) st H Q:=(w_ki 0 d3 rfl).trans (ws 3 d17 rfl rfl rfl rfl rfl rfl)
theorem m18_93:M18 93 (a::c::d::.val (.int v3)::ls) st H Q=if v3 < 4 then M18 98 (a::c::d::.val (.int v3)::ls) st H Q else M18 169 (a::c::d::.val (.int v3)::ls) st H Q:=(w_x d6 rfl).trans ((w_ki 4 d12 rfl).trans (w_icmpN (dc (.if_icmp .ge 74,3)) (i_ge v3 4) rfl))
theorem m18_98:M18 98 (.val (.ref (b+1))::c::d::.val (.int v3)::ls) st (put (b+1) e s A g) Q=if v3 < (s 9) then M18 106 (.val (.ref (b+1))::c::d::.val (.int v3)::ls) st (put (b+1) e s A g) Q else M18 110 (.val (.ref (b+1))::c::d::.val (.int v3)::ls) st (put (b+1) e s A g) Q:=(w_x d6 rfl).trans ((w_x d0 rfl).trans ((w_get (dc (.getfield 155,3)) gf_155 put_o rfl).trans (w_icmpN (dc (.if_icmp .ge 7,3)) (i_ge v3 (s 9)) rfl)))
theorem m18_106:M18 106 ls st H Q=M18 111 ls (.int 1::st) H Q:=(w_ki 1 d5 rfl).trans (w_x d14 rfl)
theorem m18_110:M18 110 ls st H Q=M18 111 ls (.int 0::st) H Q:=w_con d3 rfl (by decide)
theorem m18_111g (h:okS k):M18 111 [a,c,d,f,k] ((.int v)::st) H Q=M18 113 [a,c,d,f,.val (.int v)] st H Q:=by rcases h with rfl | ⟨z,rfl⟩ <;> exact ws 4 d23 rfl rfl rfl rfl rfl rfl
theorem m18_113:M18 113 [.val (.ref (b+1)),.val (.int v1),d,.val (.int v3),.val (.int v4)] st (put (b+1) e s A g) Q=if v4=0 then M18 136 [.val (.ref (b+1)),.val (.int v1),d,.val (.int v3),.val (.int v4)] (.int ((v1 * 4)+v3)::.ref ((b+1)+16)::st) (put (b+1) e s A g) Q else M18 127 [.val (.ref (b+1)),.val (.int v1),d,.val (.int v3),.val (.int v4)] (.int ((v1 * 4)+v3)::.ref ((b+1)+16)::st) (put (b+1) e s A g) Q:=(w_x d0 rfl).trans ((w_get (dc (.getfield 55,3)) gf_55 put_o rfl).trans ((w_x d1 rfl).trans ((w_ki 4 d12 rfl).trans ((w_x (dc (.imul,1)) rfl).trans ((w_x d6 rfl).trans ((w_x d9 rfl).trans ((w_x d11 rfl).trans (w_if d35 (z_eq v4) rfl))))))))
theorem m18_127:M18 127 (.val (.ref (b+1))::c::d::.val (.int v3)::ls) st (put (b+1) e s A g) Q=(inB v3 (A 19)∧M18 133 (.val (.ref (b+1))::c::d::.val (.int v3)::ls) (.int (getA (A 19) v3)::st) (put (b+1) e s A g) Q):=(w_x d0 rfl).trans ((w_get (dc (.getfield 67,3)) gf_67 put_o rfl).trans ((w_x d6 rfl).trans (w_ild d7 rfl put_a19)))
theorem m18_133:M18 133 ls st H Q=M18 137 ls st H Q:=w_x d14 rfl
theorem m18_136:M18 136 ls st H Q=M18 137 ls (.int 0::st) H Q:=w_con d3 rfl (by decide)
theorem m18_137:M18 137 ls (.int v::.int j::.ref ((b+1)+16)::st) (put (b+1) e s A g) Q=(inB j (A 15)∧M18 138 ls st (put (b+1) e s (ou A 15 (setA (A 15) j v)) g) Q):=w_ist d8 rfl put_a15 (by omega) rfl put_w15
theorem m18_138:M18 138 [.val (.ref (b+1)),.val (.int v1),d,.val (.int v3),.val (.int v4)] st (put (b+1) e s A g) Q=if v4=0 then M18 161 [.val (.ref (b+1)),.val (.int v1),d,.val (.int v3),.val (.int v4)] (.int ((v1 * 4)+v3)::.ref ((b+1)+17)::st) (put (b+1) e s A g) Q else M18 152 [.val (.ref (b+1)),.val (.int v1),d,.val (.int v3),.val (.int v4)] (.int ((v1 * 4)+v3)::.ref ((b+1)+17)::st) (put (b+1) e s A g) Q:=(w_x d0 rfl).trans ((w_get (dc (.getfield 58,3)) gf_58 put_o rfl).trans ((w_x d1 rfl).trans ((w_ki 4 d12 rfl).trans ((w_x (dc (.imul,1)) rfl).trans ((w_x d6 rfl).trans ((w_x d9 rfl).trans ((w_x d11 rfl).trans (w_if d35 (z_eq v4) rfl))))))))
theorem m18_152:M18 152 (.val (.ref (b+1))::c::d::.val (.int v3)::ls) st (put (b+1) e s A g) Q=(inB v3 (A 20)∧M18 158 (.val (.ref (b+1))::c::d::.val (.int v3)::ls) (.int (getA (A 20) v3)::st) (put (b+1) e s A g) Q):=(w_x d0 rfl).trans ((w_get (dc (.getfield 70,3)) gf_70 put_o rfl).trans ((w_x d6 rfl).trans (w_ild d7 rfl put_a20)))
theorem m18_158:M18 158 ls st H Q=M18 162 ls st H Q:=w_x d14 rfl
theorem m18_161:M18 161 ls st H Q=M18 162 ls (.int 0::st) H Q:=w_con d3 rfl (by decide)
theorem m18_162:M18 162 ls (.int v::.int j::.ref ((b+1)+17)::st) (put (b+1) e s A g) Q=(inB j (A 16)∧M18 163 ls st (put (b+1) e s (ou A 16 (setA (A 16) j v)) g) Q):=w_ist d8 rfl put_a16 (by omega) rfl put_w16
theorem m18_163:M18 163 (a::c::d::.val (.int v3)::ls) st H Q=M18 93 (a::c::d::.val (.int (v3+1))::ls) st H Q:=(w_iinc (dc (.iinc 3 1,3)) rfl (by decide) rfl).trans (w_x (dc (.goto (-73),3)) rfl)
theorem m18_169:M18 169 (.val (.ref (b+1))::.val (.int v1)::ls) st (put (b+1) e s A g) Q=(inB v1 (A 12)∧M18 179 (.val (.ref (b+1))::.val (.int v1)::ls) st (put (b+1) e s (ou A 12 (setA (A 12) v1 (s 8))) g) Q):=(w_x d0 rfl).trans ((w_get (dc (.getfield 46,3)) gf_46 put_o rfl).trans ((w_x d1 rfl).trans ((w_x d0 rfl).trans ((w_get d34 gf_181 put_o rfl).trans (w_ist d8 rfl put_a12 (by omega) rfl put_w12)))))
theorem m18_179:M18 179 (.val (.ref (b+1))::.val (.int v1)::ls) st (put (b+1) e s A g) Q=(inB v1 (A 11)∧M18 189 (.val (.ref (b+1))::.val (.int v1)::ls) st (put (b+1) e s (ou A 11 (setA (A 11) v1 (s 9))) g) Q):=(w_x d0 rfl).trans ((w_get (dc (.getfield 43,3)) gf_43 put_o rfl).trans ((w_x d1 rfl).trans ((w_x d0 rfl).trans ((w_get (dc (.getfield 155,3)) gf_155 put_o rfl).trans (w_ist d8 rfl put_a11 (by omega) rfl put_w11)))))
theorem m18_189:M18 189 (.val (.ref (b+1))::.val (.int v1)::ls) st (put (b+1) e s A g) Q=(inB v1 (A 7)∧M18 195 (.val (.ref (b+1))::.val (.int v1)::ls) (.int (getA (A 7) v1)::st) (put (b+1) e s A g) Q):=(w_x d0 rfl).trans ((w_get d33 gf_31 put_o rfl).trans ((w_x d1 rfl).trans (w_ild d7 rfl put_a7)))
theorem m18_195:M18 195 ls (.int x::st) H Q=if x=0 then M18 198 ls st H Q else M18 205 ls st H Q:=w_ifN (dc (.ifCond .ne 10,3)) (z_ne x) rfl
theorem m18_198:M18 198 (.val (.ref (b+1))::.val (.int v1)::ls) st (put (b+1) e s A g) Q=(inB v1 (A 7)∧M18 205 (.val (.ref (b+1))::.val (.int v1)::ls) st (put (b+1) e s (ou A 7 (setA (A 7) v1 1)) g) Q):=(w_x d0 rfl).trans ((w_get d33 gf_31 put_o rfl).trans ((w_x d1 rfl).trans ((w_ki 1 d5 rfl).trans (w_ist d8 rfl put_a7 (by omega) rfl put_w7))))
theorem m18_205:M18 205 (.val (.ref (b+1))::.val (.int v1)::ls) st (put (b+1) e s A g) Q=(inB v1 (A 10)∧M18 212 (.val (.ref (b+1))::.val (.int v1)::ls) st (put (b+1) e s (ou A 10 (setA (A 10) v1 0)) g) Q):=(w_x d0 rfl).trans ((w_get (dc (.getfield 40,3)) gf_40 put_o rfl).trans ((w_x d1 rfl).trans ((w_ki 0 d3 rfl).trans (w_ist d8 rfl put_a10 (by omega) rfl put_w10))))
theorem m18_212:M18 212 ls [] H Q=Q none H:=w_vret d24 rfl
theorem m19_0:M19 0 [a,.val (.int v1)] st H Q=if v1=3 then M19 5 [a,.val (.int v1)] st H Q else M19 10 [a,.val (.int v1)] st H Q:=(w_x d1 rfl).trans ((w_ki 3 d15 rfl).trans (w_icmpN d30 (i_ne v1 3) rfl))
theorem m19_5:M19 5 (.val (.ref r)::ls) st H Q=M19 6 (.val (.ref r)::ls) (.ref r::st) H Q:=w_x d0 rfl
theorem cr19_205:vR tables_1 dn y19 205=some (true,y36,prog_1_method_19_code,1,(some .boolean),0,3):=cp ⟨[],some .boolean⟩ rc_36 dn_36 dn_19
theorem m19_6:M19 6 ls [.ref (b+1)] (put (b+1) e s A g) Q=M36 0 [.val (.ref (b+1))] [] (put (b+1) e s A g) (fun v H1 => M19 9 ls (v.toList ++ []) H1 Q):=wv [] [] (dc (.invokevirtual 205,3)) cr19_205 rfl rfl rfl rfl rfl
theorem m19_9:M19 9 ls (.int z::st) H Q=Q (some (.int (nar .boolean z))) H:=w_iretN d2 rfl (by simp)
theorem m19_10:M19 10 [a,.val (.int v1)] st H Q=if v1=4 then M19 15 [a,.val (.int v1)] st H Q else M19 20 [a,.val (.int v1)] st H Q:=(w_x d1 rfl).trans ((w_ki 4 d12 rfl).trans (w_icmpN d30 (i_ne v1 4) rfl))
theorem m19_15:M19 15 (.val (.ref r)::ls) st H Q=M19 16 (.val (.ref r)::ls) (.ref r::st) H Q:=w_x d0 rfl
theorem cr19_208:vR tables_1 dn y19 208=some (true,y37,prog_1_method_20_code,1,(some .boolean),0,3):=cp ⟨[],some .boolean⟩ rc_37 dn_37 dn_19
theorem m19_16:M19 16 ls [.ref (b+1)] (put (b+1) e s A g) Q=M37 0 [.val (.ref (b+1))] [] (put (b+1) e s A g) (fun v H1 => M19 19 ls (v.toList ++ []) H1 Q):=wv [] [] (dc (.invokevirtual 208,3)) cr19_208 rfl rfl rfl rfl rfl
theorem m19_19:M19 19 ls (.int z::st) H Q=Q (some (.int (nar .boolean z))) H:=w_iretN d2 rfl (by simp)
theorem m19_20:M19 20 [.val (.ref (b+1)),.val (.int v1)] st H Q=M19 22 [.val (.ref (b+1)),.val (.int v1)] (.int v1::.ref (b+1)::st) H Q:=(w_x d0 rfl).trans (w_x d1 rfl)
theorem cr19_211:vR tables_1 dn y19 211=some (true,y20,prog_1_method_29_code,2,(some .boolean),1,46):=cp ⟨[.int],some .boolean⟩ rc_20 dn_20 dn_19
theorem m19_22:M19 22 ls [.int a0,.ref (b+1)] (put (b+1) e s A g) Q=M20 0 [.val (.ref (b+1)),.val (.int a0)] [] (put (b+1) e s A g) (fun v H1 => M19 25 ls (v.toList ++ []) H1 Q):=wv [.int a0] [] (dc (.invokevirtual 211,3)) cr19_211 rfl rfl rfl rfl rfl
theorem m19_25:M19 25 ls (.int x::st) H Q=if x=0 then M19 28 ls st H Q else M19 30 ls st H Q:=w_ifN d10 (z_ne x) rfl
theorem m19_28:M19 28 ls st H Q=M19 29 ls (.int 0::st) H Q:=w_con d3 rfl (by decide)
theorem m19_29:M19 29 ls (.int z::st) H Q=Q (some (.int (nar .boolean z))) H:=w_iretN d2 rfl (by simp)
theorem m19_30:M19 30 [.val (.ref (b+1)),.val (.int v1)] st H Q=M19 32 [.val (.ref (b+1)),.val (.int v1)] (.int v1::.ref (b+1)::st) H Q:=(w_x d0 rfl).trans (w_x d1 rfl)
theorem cr19_214:vR tables_1 dn y19 214=some (true,y21,prog_1_method_16_code,4,(some .boolean),1,0):=cp ⟨[.int],some .boolean⟩ rc_21 dn_21 dn_19
theorem m19_32:M19 32 ls [.int a0,.ref (b+1)] (put (b+1) e s A g) Q=M21 0 [.val (.ref (b+1)),.val (.int a0),.unset,.unset] [] (put (b+1) e s A g) (fun v H1 => M19 35 ls (v.toList ++ []) H1 Q):=wv [.int a0] [] (dc (.invokevirtual 214,3)) cr19_214 rfl rfl rfl rfl rfl
theorem m19_35:M19 35 ls (.int z::st) H Q=Q (some (.int (nar .boolean z))) H:=w_iretN d2 rfl (by simp)
theorem m20_0:M20 0 [a,.val (.int v1)] st H Q=if v1 < 8 then M20 16 [a,.val (.int v1)] st H Q else M20 6 [a,.val (.int v1)] st H Q:=(w_x d1 rfl).trans ((w_ki 8 d19 rfl).trans (w_icmp (dc (.if_icmp .lt 13,3)) (i_lt v1 8) rfl))
theorem m20_6:M20 6 [a,.val (.int v1)] st H Q=if 20 < v1 then M20 16 [a,.val (.int v1)] st H Q else M20 12 [a,.val (.int v1)] st H Q:=(w_x d1 rfl).trans ((w_ki 20 (dc (.bipush 20,2)) rfl).trans (w_icmp (dc (.if_icmp .gt 7,3)) (i_gt v1 20) rfl))
theorem m20_12:M20 12 ls st H Q=M20 17 ls (.int 1::st) H Q:=(w_ki 1 d5 rfl).trans (w_x d14 rfl)
theorem m20_16:M20 16 ls st H Q=M20 17 ls (.int 0::st) H Q:=w_con d3 rfl (by decide)
theorem m20_17:M20 17 ls (.int z::st) H Q=Q (some (.int (nar .boolean z))) H:=w_iretN d2 rfl (by simp)
theorem m21_0:M21 0 (.val (.ref (b+1))::.val (.int v1)::ls) st H Q=M21 2 (.val (.ref (b+1))::.val (.int v1)::ls) (.int v1::.ref (b+1)::st) H Q:=(w_x d0 rfl).trans (w_x d1 rfl)
theorem cr21_217:vR tables_1 dn y21 217=some (true,y22,prog_1_method_27_code,2,(some .int),1,18):=cp ⟨[.int],some .int⟩ rc_22 dn_22 dn_21
theorem m21_2:M21 2 ls [.int a0,.ref (b+1)] (put (b+1) e s A g) Q=M22 0 [.val (.ref (b+1)),.val (.int a0)] [] (put (b+1) e s A g) (fun v H1 => M21 5 ls (v.toList ++ []) H1 Q):=wv [.int a0] [] (dc (.invokevirtual 217,3)) cr21_217 rfl rfl rfl rfl rfl
theorem m21_5u:M21 5 (a::c::.unset::ls) ((.int v)::st) H Q=M21 6 (a::c::.val (.int v)::ls) st H Q:=ws 2 d25 rfl rfl rfl rfl rfl rfl
theorem m21_6:M21 6 (.val (.ref (b+1))::c::.val (.int v2)::ls) st H Q=M21 8 (.val (.ref (b+1))::c::.val (.int v2)::ls) (.int v2::.ref (b+1)::st) H Q:=(w_x d0 rfl).trans (w_x d4 rfl)
theorem cr21_220:vR tables_1 dn y21 220=some (true,y16,prog_1_method_17_code,4,(some .boolean),1,0):=cp ⟨[.int],some .boolean⟩ rc_16 dn_16 dn_21
theorem m21_8:M21 8 ls [.int a0,.ref (b+1)] (put (b+1) e s A g) Q=M16 0 [.val (.ref (b+1)),.val (.int a0),.unset,.unset] [] (put (b+1) e s A g) (fun v H1 => M21 11 ls (v.toList ++ []) H1 Q):=wv [.int a0] [] (dc (.invokevirtual 220,3)) cr21_220 rfl rfl rfl rfl rfl
theorem m21_11:M21 11 ls (.int x::st) H Q=if x=0 then M21 14 ls st H Q else M21 16 ls st H Q:=w_ifN d10 (z_ne x) rfl
theorem m21_14:M21 14 ls st H Q=M21 15 ls (.int 0::st) H Q:=w_con d3 rfl (by decide)
theorem m21_15:M21 15 ls (.int z::st) H Q=Q (some (.int (nar .boolean z))) H:=w_iretN d2 rfl (by simp)
theorem m21_16:M21 16 [.val (.ref (b+1)),.val (.int v1),d,.unset] st (put (b+1) e s A g) Q=if v1=19 then M21 33 [.val (.ref (b+1)),.val (.int v1),d,.val (.int (s 8))] st (put (b+1) e s A g) Q else M21 27 [.val (.ref (b+1)),.val (.int v1),d,.val (.int (s 8))] st (put (b+1) e s A g) Q:=(w_x d0 rfl).trans ((w_get d34 gf_181 put_o rfl).trans ((ws 3 d17 rfl rfl rfl rfl rfl rfl).trans ((w_x d1 rfl).trans ((w_ki 19 (dc (.bipush 19,2)) rfl).trans (w_icmp d36 (i_eq v1 19) rfl)))))
theorem m21_27:M21 27 (a::.val (.int v1)::ls) st H Q=if v1=20 then M21 33 (a::.val (.int v1)::ls) st H Q else M21 44 (a::.val (.int v1)::ls) st H Q:=(w_x d1 rfl).trans ((w_ki 20 (dc (.bipush 20,2)) rfl).trans (w_icmpN (dc (.if_icmp .ne 14,3)) (i_ne v1 20) rfl))
theorem m21_33:M21 33 (.val (.ref (b+1))::.val (.int v1)::ls) st H Q=M21 36 (.val (.ref (b+1))::.val (.int v1)::ls) (.int 0::.int v1::.ref (b+1)::st) H Q:=(w_x d0 rfl).trans ((w_x d1 rfl).trans (w_ki 0 d3 rfl))
theorem cr21_196:vR tables_1 dn y21 196=some (true,y14,prog_1_method_26_code,3,(some .boolean),2,30):=cp ⟨[.int,.int],some .boolean⟩ rc_14 dn_14 dn_21
theorem m21_36:M21 36 ls [.int a1,.int a0,.ref (b+1)] (put (b+1) e s A g) Q=M14 0 [.val (.ref (b+1)),.val (.int a0),.val (.int a1)] [] (put (b+1) e s A g) (fun v H1 => M21 39 ls (v.toList ++ []) H1 Q):=wv [.int a1,.int a0] [] (dc (.invokevirtual 196,3)) cr21_196 rfl rfl rfl rfl rfl
theorem m21_39:M21 39 ls (.int x::st) H Q=if x=0 then M21 42 ls st H Q else M21 44 ls st H Q:=w_ifN d10 (z_ne x) rfl
theorem m21_42:M21 42 ls st H Q=M21 43 ls (.int 0::st) H Q:=w_con d3 rfl (by decide)
theorem m21_43:M21 43 ls (.int z::st) H Q=Q (some (.int (nar .boolean z))) H:=w_iretN d2 rfl (by simp)
theorem m21_44:M21 44 [.val (.ref (b+1)),.val (.int v1),d,.val (.int v3)] st H Q=M21 47 [.val (.ref (b+1)),.val (.int v1),d,.val (.int v3)] (.int v3::.int v1::.ref (b+1)::st) H Q:=(w_x d0 rfl).trans ((w_x d1 rfl).trans (w_x d6 rfl))
theorem cr21_202:vR tables_1 dn y21 202=some (true,y23,prog_1_method_25_code,3,(some .boolean),2,30):=cp ⟨[.int,.int],some .boolean⟩ rc_23 dn_23 dn_21
theorem m21_47:M21 47 ls [.int a1,.int a0,.ref (b+1)] (put (b+1) e s A g) Q=M23 0 [.val (.ref (b+1)),.val (.int a0),.val (.int a1)] [] (put (b+1) e s A g) (fun v H1 => M21 50 ls (v.toList ++ []) H1 Q):=wv [.int a1,.int a0] [] (dc (.invokevirtual 202,3)) cr21_202 rfl rfl rfl rfl rfl
theorem m21_50:M21 50 ls (.int x::st) H Q=if x=0 then M21 53 ls st H Q else M21 55 ls st H Q:=w_ifN d10 (z_ne x) rfl
theorem m21_53:M21 53 ls st H Q=M21 54 ls (.int 0::st) H Q:=w_con d3 rfl (by decide)
theorem m21_54:M21 54 ls (.int z::st) H Q=Q (some (.int (nar .boolean z))) H:=w_iretN d2 rfl (by simp)
theorem pf21_168:pfR tables_1 y21.cls y21.name 168=some ("AgentExprDbg", 42,.boolean):=by decide +kernel
theorem m21_55:M21 55 (.val (.ref (b+1))::ls) st (put (b+1) e s A g) Q=M21 60 (.val (.ref (b+1))::ls) st (put (b+1) e (ou s 12 (nar .boolean 1)) A g) Q:=(w_x d0 rfl).trans ((w_ki 1 d5 rfl).trans (w_put (dc (.putfield 168,3)) pf21_168 put_o (Nat.succ_le_succ (Nat.zero_le _)) (by show 42 < 60; omega) rfl put_s12))
theorem m21_60:M21 60 ls st H Q=M21 61 ls (.int 1::st) H Q:=w_con d5 rfl (by decide)
theorem m21_61:M21 61 ls (.int z::st) H Q=Q (some (.int (nar .boolean z))) H:=w_iretN d2 rfl (by simp)
theorem m22_0:M22 0 [a,.val (.int v1)] st H Q=if v1=8 then M22 18 [a,.val (.int v1)] st H Q else M22 6 [a,.val (.int v1)] st H Q:=(w_x d1 rfl).trans ((w_ki 8 d19 rfl).trans (w_icmp (dc (.if_icmp .eq 15,3)) (i_eq v1 8) rfl))
theorem m22_6:M22 6 [a,.val (.int v1)] st H Q=if v1=9 then M22 18 [a,.val (.int v1)] st H Q else M22 12 [a,.val (.int v1)] st H Q:=(w_x d1 rfl).trans ((w_ki 9 (dc (.bipush 9,2)) rfl).trans (w_icmp d36 (i_eq v1 9) rfl))
theorem m22_12:M22 12 [a,.val (.int v1)] st H Q=if v1=10 then M22 18 [a,.val (.int v1)] st H Q else M22 21 [a,.val (.int v1)] st H Q:=(w_x d1 rfl).trans ((w_ki 10 (dc (.bipush 10,2)) rfl).trans (w_icmpN (dc (.if_icmp .ne 6,3)) (i_ne v1 10) rfl))
theorem m22_18:M22 18 ls st H Q=M22 20 ls (.int 6::st) H Q:=w_con (dc (.bipush 6,2)) rfl (by decide)
theorem m22_20:M22 20 ls (.int z::st) H Q=Q (some (.int z)) H:=w_iret d2 rfl
theorem m22_21:M22 21 [a,.val (.int v1)] st H Q=if v1=11 then M22 33 [a,.val (.int v1)] st H Q else M22 27 [a,.val (.int v1)] st H Q:=(w_x d1 rfl).trans ((w_ki 11 (dc (.bipush 11,2)) rfl).trans (w_icmp d36 (i_eq v1 11) rfl))
theorem m22_27:M22 27 [a,.val (.int v1)] st H Q=if v1=12 then M22 33 [a,.val (.int v1)] st H Q else M22 35 [a,.val (.int v1)] st H Q:=(w_x d1 rfl).trans ((w_ki 12 (dc (.bipush 12,2)) rfl).trans (w_icmpN (dc (.if_icmp .ne 5,3)) (i_ne v1 12) rfl))
theorem m22_33:M22 33 ls st H Q=M22 34 ls (.int 5::st) H Q:=w_con (dc (.iconst 5,1)) rfl (by decide)
theorem m22_34:M22 34 ls (.int z::st) H Q=Q (some (.int z)) H:=w_iret d2 rfl
theorem m22_35:M22 35 [a,.val (.int v1)] st H Q=if v1 < 13 then M22 49 [a,.val (.int v1)] st H Q else M22 41 [a,.val (.int v1)] st H Q:=(w_x d1 rfl).trans ((w_ki 13 (dc (.bipush 13,2)) rfl).trans (w_icmp (dc (.if_icmp .lt 11,3)) (i_lt v1 13) rfl))
theorem m22_41:M22 41 [a,.val (.int v1)] st H Q=if 16 < v1 then M22 49 [a,.val (.int v1)] st H Q else M22 47 [a,.val (.int v1)] st H Q:=(w_x d1 rfl).trans ((w_ki 16 (dc (.bipush 16,2)) rfl).trans (w_icmp (dc (.if_icmp .gt 5,3)) (i_gt v1 16) rfl))
theorem m22_47:M22 47 ls st H Q=M22 48 ls (.int 4::st) H Q:=w_con d12 rfl (by decide)
theorem m22_48:M22 48 ls (.int z::st) H Q=Q (some (.int z)) H:=w_iret d2 rfl
theorem m22_49:M22 49 [a,.val (.int v1)] st H Q=if v1=17 then M22 61 [a,.val (.int v1)] st H Q else M22 55 [a,.val (.int v1)] st H Q:=(w_x d1 rfl).trans ((w_ki 17 (dc (.bipush 17,2)) rfl).trans (w_icmp d36 (i_eq v1 17) rfl))
theorem m22_55:M22 55 [a,.val (.int v1)] st H Q=if v1=18 then M22 61 [a,.val (.int v1)] st H Q else M22 63 [a,.val (.int v1)] st H Q:=(w_x d1 rfl).trans ((w_ki 18 (dc (.bipush 18,2)) rfl).trans (w_icmpN (dc (.if_icmp .ne 5,3)) (i_ne v1 18) rfl))
theorem m22_61:M22 61 ls st H Q=M22 62 ls (.int 3::st) H Q:=w_con d15 rfl (by decide)
theorem m22_62:M22 62 ls (.int z::st) H Q=Q (some (.int z)) H:=w_iret d2 rfl
theorem m22_63:M22 63 [a,.val (.int v1)] st H Q=if v1=19 then M22 69 [a,.val (.int v1)] st H Q else M22 71 [a,.val (.int v1)] st H Q:=(w_x d1 rfl).trans ((w_ki 19 (dc (.bipush 19,2)) rfl).trans (w_icmpN (dc (.if_icmp .ne 5,3)) (i_ne v1 19) rfl))
theorem m22_69:M22 69 ls st H Q=M22 70 ls (.int 2::st) H Q:=w_con d20 rfl (by decide)
theorem m22_70:M22 70 ls (.int z::st) H Q=Q (some (.int z)) H:=w_iret d2 rfl
theorem m22_71:M22 71 [a,.val (.int v1)] st H Q=if v1=20 then M22 77 [a,.val (.int v1)] st H Q else M22 79 [a,.val (.int v1)] st H Q:=(w_x d1 rfl).trans ((w_ki 20 (dc (.bipush 20,2)) rfl).trans (w_icmpN (dc (.if_icmp .ne 5,3)) (i_ne v1 20) rfl))
theorem m22_77:M22 77 ls st H Q=M22 78 ls (.int 1::st) H Q:=w_con d5 rfl (by decide)
theorem m22_78:M22 78 ls (.int z::st) H Q=Q (some (.int z)) H:=w_iret d2 rfl
theorem m22_79:M22 79 [.val (.ref (b+1)),.val (.int v1)] st H Q=M22 81 [.val (.ref (b+1)),.val (.int v1)] (.int v1::.ref (b+1)::st) H Q:=(w_x d0 rfl).trans (w_x d1 rfl)
theorem cr22_199:vR tables_1 dn y22 199=some (true,y24,prog_1_method_28_code,2,(some .boolean),1,0):=cp ⟨[.int],some .boolean⟩ rc_24 dn_24 dn_22
theorem m22_81:M22 81 ls [.int a0,.ref (b+1)] (put (b+1) e s A g) Q=M24 0 [.val (.ref (b+1)),.val (.int a0)] [] (put (b+1) e s A g) (fun v H1 => M22 84 ls (v.toList ++ []) H1 Q):=wv [.int a0] [] (dc (.invokevirtual 199,3)) cr22_199 rfl rfl rfl rfl rfl
theorem m22_84:M22 84 ls (.int x::st) H Q=if x=0 then M22 90 ls st H Q else M22 87 ls st H Q:=w_if (dc (.ifCond .eq 6,3)) (z_eq x) rfl
theorem m22_87:M22 87 ls st H Q=M22 89 ls (.int 7::st) H Q:=w_con d22 rfl (by decide)
theorem m22_89:M22 89 ls (.int z::st) H Q=Q (some (.int z)) H:=w_iret d2 rfl
theorem m22_90:M22 90 ls st H Q=M22 91 ls (.int 0::st) H Q:=w_con d3 rfl (by decide)
theorem m22_91:M22 91 ls (.int z::st) H Q=Q (some (.int z)) H:=w_iret d2 rfl
theorem m23_0:M23 0 (.val (.ref (b+1))::ls) st (put (b+1) e s A g) Q=if (s 13) < 0 then M23 16 (.val (.ref (b+1))::ls) st (put (b+1) e s A g) Q else M23 7 (.val (.ref (b+1))::ls) st (put (b+1) e s A g) Q:=(w_x d0 rfl).trans ((w_get d28 gf_187 put_o rfl).trans (w_if (dc (.ifCond .lt 12,3)) (z_lt (s 13)) rfl))
theorem m23_7:M23 7 (.val (.ref (b+1))::ls) st (put (b+1) e s A g) Q=if (s 13) < 32 then M23 18 (.val (.ref (b+1))::ls) st (put (b+1) e s A g) Q else M23 16 (.val (.ref (b+1))::ls) st (put (b+1) e s A g) Q:=(w_x d0 rfl).trans ((w_get d28 gf_187 put_o rfl).trans ((w_ki 32 d16 rfl).trans (w_icmp (dc (.if_icmp .lt 5,3)) (i_lt (s 13) 32) rfl)))
theorem m23_16:M23 16 ls st H Q=M23 17 ls (.int 0::st) H Q:=w_con d3 rfl (by decide)
theorem m23_17:M23 17 ls (.int z::st) H Q=Q (some (.int (nar .boolean z))) H:=w_iretN d2 rfl (by simp)
theorem m23_18:M23 18 (.val (.ref (b+1))::.val (.int v1)::ls) st (put (b+1) e s A g) Q=(inB (s 13) (A 21)∧M23 28 (.val (.ref (b+1))::.val (.int v1)::ls) st (put (b+1) e s (ou A 21 (setA (A 21) (s 13) v1)) g) Q):=(w_x d0 rfl).trans ((w_get (dc (.getfield 73,3)) gf_73 put_o rfl).trans ((w_x d0 rfl).trans ((w_get d28 gf_187 put_o rfl).trans ((w_x d1 rfl).trans (w_ist d8 rfl put_a21 (by omega) rfl put_w21)))))
theorem m23_28:M23 28 [.val (.ref (b+1)),c,.val (.int v2)] st (put (b+1) e s A g) Q=(inB (s 13) (A 22)∧M23 38 [.val (.ref (b+1)),c,.val (.int v2)] st (put (b+1) e s (ou A 22 (setA (A 22) (s 13) v2)) g) Q):=(w_x d0 rfl).trans ((w_get (dc (.getfield 76,3)) gf_76 put_o rfl).trans ((w_x d0 rfl).trans ((w_get d28 gf_187 put_o rfl).trans ((w_x d4 rfl).trans (w_ist d8 rfl put_a22 (by omega) rfl put_w22)))))
theorem pf23_187:pfR tables_1 y23.cls y23.name 187=some ("AgentExprDbg", 43,.int):=by decide +kernel
theorem m23_38:M23 38 (.val (.ref (b+1))::ls) st (put (b+1) e s A g) Q=M23 48 (.val (.ref (b+1))::ls) st (put (b+1) e (ou s 13 (((s 13)+1))) A g) Q:=(w_x d0 rfl).trans ((w_x d0 rfl).trans ((w_get d28 gf_187 put_o rfl).trans ((w_ki 1 d5 rfl).trans ((w_x d9 rfl).trans (w_put (dc (.putfield 187,3)) pf23_187 put_o (Nat.succ_le_succ (Nat.zero_le _)) (by show 43 < 60; omega) rfl put_s13)))))
theorem m23_48:M23 48 ls st H Q=M23 49 ls (.int 1::st) H Q:=w_con d5 rfl (by decide)
theorem m23_49:M23 49 ls (.int z::st) H Q=Q (some (.int (nar .boolean z))) H:=w_iretN d2 rfl (by simp)
theorem m24_0:M24 0 [a,.val (.int v1)] st H Q=if v1=5 then M24 17 [a,.val (.int v1)] st H Q else M24 5 [a,.val (.int v1)] st H Q:=(w_x d1 rfl).trans ((w_ki 5 (dc (.iconst 5,1)) rfl).trans (w_icmp (dc (.if_icmp .eq 15,3)) (i_eq v1 5) rfl))
theorem m24_5:M24 5 [a,.val (.int v1)] st H Q=if v1=6 then M24 17 [a,.val (.int v1)] st H Q else M24 11 [a,.val (.int v1)] st H Q:=(w_x d1 rfl).trans ((w_ki 6 (dc (.bipush 6,2)) rfl).trans (w_icmp d36 (i_eq v1 6) rfl))
theorem m24_11:M24 11 [a,.val (.int v1)] st H Q=if v1=7 then M24 17 [a,.val (.int v1)] st H Q else M24 21 [a,.val (.int v1)] st H Q:=(w_x d1 rfl).trans ((w_ki 7 d22 rfl).trans (w_icmpN (dc (.if_icmp .ne 7,3)) (i_ne v1 7) rfl))
theorem m24_17:M24 17 ls st H Q=M24 22 ls (.int 1::st) H Q:=(w_ki 1 d5 rfl).trans (w_x d14 rfl)
theorem m24_21:M24 21 ls st H Q=M24 22 ls (.int 0::st) H Q:=w_con d3 rfl (by decide)
theorem m24_22:M24 22 ls (.int z::st) H Q=Q (some (.int (nar .boolean z))) H:=w_iretN d2 rfl (by simp)
theorem m25_0:M25 0 (.val (.ref (b+1))::.val (.int v1)::ls) st H Q=M25 2 (.val (.ref (b+1))::.val (.int v1)::ls) (.int v1::.ref (b+1)::st) H Q:=(w_x d0 rfl).trans (w_x d1 rfl)
theorem cr25_199:vR tables_1 dn y25 199=some (true,y24,prog_1_method_28_code,2,(some .boolean),1,2):=cp ⟨[.int],some .boolean⟩ rc_24 dn_24 dn_25
theorem m25_2:M25 2 ls [.int a0,.ref (b+1)] (put (b+1) e s A g) Q=M24 0 [.val (.ref (b+1)),.val (.int a0)] [] (put (b+1) e s A g) (fun v H1 => M25 5 ls (v.toList ++ []) H1 Q):=wv [.int a0] [] (dc (.invokevirtual 199,3)) cr25_199 rfl rfl rfl rfl rfl
theorem m25_5:M25 5 ls (.int x::st) H Q=if x=0 then M25 25 ls st H Q else M25 8 ls st H Q:=w_if (dc (.ifCond .eq 20,3)) (z_eq x) rfl
theorem m25_8:M25 8 (.val (.ref (b+1))::ls) st (put (b+1) e s A g) Q=if (s 14) < 1 then M25 16 (.val (.ref (b+1))::ls) st (put (b+1) e s A g) Q else M25 18 (.val (.ref (b+1))::ls) st (put (b+1) e s A g) Q:=(w_x d0 rfl).trans ((w_get d32 gf_190 put_o rfl).trans ((w_ki 1 d5 rfl).trans (w_icmpN (dc (.if_icmp .ge 5,3)) (i_ge (s 14) 1) rfl)))
theorem m25_16:M25 16 ls st H Q=M25 17 ls (.int 0::st) H Q:=w_con d3 rfl (by decide)
theorem m25_17:M25 17 ls (.int z::st) H Q=Q (some (.int (nar .boolean z))) H:=w_iretN d2 rfl (by simp)
theorem m25_18:M25 18 (.val (.ref (b+1))::.val (.int v1)::ls) st H Q=M25 21 (.val (.ref (b+1))::.val (.int v1)::ls) (.int 0::.int v1::.ref (b+1)::st) H Q:=(w_x d0 rfl).trans ((w_x d1 rfl).trans (w_ki 0 d3 rfl))
theorem cr25_196:vR tables_1 dn y25 196=some (true,y14,prog_1_method_26_code,3,(some .boolean),2,1):=cp ⟨[.int,.int],some .boolean⟩ rc_14 dn_14 dn_25
theorem m25_21:M25 21 ls [.int a1,.int a0,.ref (b+1)] (put (b+1) e s A g) Q=M14 0 [.val (.ref (b+1)),.val (.int a0),.val (.int a1)] [] (put (b+1) e s A g) (fun v H1 => M25 24 ls (v.toList ++ []) H1 Q):=wv [.int a1,.int a0] [] (dc (.invokevirtual 196,3)) cr25_196 rfl rfl rfl rfl rfl
theorem m25_24:M25 24 ls (.int z::st) H Q=Q (some (.int (nar .boolean z))) H:=w_iretN d2 rfl (by simp)
theorem m25_25:M25 25 (.val (.ref r)::ls) st H Q=M25 26 (.val (.ref r)::ls) (.ref r::st) H Q:=w_x d0 rfl
theorem cr25_226:vR tables_1 dn y25 226=some (true,y26,prog_1_method_23_code,4,(some .boolean),0,0):=cp ⟨[],some .boolean⟩ rc_26 dn_26 dn_25
theorem m25_26:M25 26 ls [.ref (b+1)] (put (b+1) e s A g) Q=M26 0 [.val (.ref (b+1)),.unset,.unset,.unset] [] (put (b+1) e s A g) (fun v H1 => M25 29 ls (v.toList ++ []) H1 Q):=wv [] [] (dc (.invokevirtual 226,3)) cr25_226 rfl rfl rfl rfl rfl
theorem m25_29:M25 29 ls (.int x::st) H Q=if x=0 then M25 32 ls st H Q else M25 34 ls st H Q:=w_ifN d10 (z_ne x) rfl
theorem m25_32:M25 32 ls st H Q=M25 33 ls (.int 0::st) H Q:=w_con d3 rfl (by decide)
theorem m25_33:M25 33 ls (.int z::st) H Q=Q (some (.int (nar .boolean z))) H:=w_iretN d2 rfl (by simp)
theorem m25_34:M25 34 (a::.val (.int v1)::ls) st H Q=if v1=19 then M25 46 (a::.val (.int v1)::ls) st H Q else M25 40 (a::.val (.int v1)::ls) st H Q:=(w_x d1 rfl).trans ((w_ki 19 (dc (.bipush 19,2)) rfl).trans (w_icmp d36 (i_eq v1 19) rfl))
theorem m25_40:M25 40 (a::.val (.int v1)::ls) st H Q=if v1=20 then M25 46 (a::.val (.int v1)::ls) st H Q else M25 80 (a::.val (.int v1)::ls) st H Q:=(w_x d1 rfl).trans ((w_ki 20 (dc (.bipush 20,2)) rfl).trans (w_icmpN (dc (.if_icmp .ne 37,3)) (i_ne v1 20) rfl))
theorem m25_46:M25 46 (.val (.ref (b+1))::ls) st H Q=M25 50 (.val (.ref (b+1))::ls) (.int 0::.int 21::.ref (b+1)::st) H Q:=(w_x d0 rfl).trans ((w_ki 21 (dc (.bipush 21,2)) rfl).trans (w_ki 0 d3 rfl))
theorem m25_50:M25 50 ls [.int a1,.int a0,.ref (b+1)] (put (b+1) e s A g) Q=M14 0 [.val (.ref (b+1)),.val (.int a0),.val (.int a1)] [] (put (b+1) e s A g) (fun v H1 => M25 53 ls (v.toList ++ []) H1 Q):=wv [.int a1,.int a0] [] (dc (.invokevirtual 196,3)) cr25_196 rfl rfl rfl rfl rfl
theorem m25_53:M25 53 ls (.int x::st) H Q=if x=0 then M25 56 ls st H Q else M25 58 ls st H Q:=w_ifN d10 (z_ne x) rfl
theorem m25_56:M25 56 ls st H Q=M25 57 ls (.int 0::st) H Q:=w_con d3 rfl (by decide)
theorem m25_57:M25 57 ls (.int z::st) H Q=Q (some (.int (nar .boolean z))) H:=w_iretN d2 rfl (by simp)
theorem m25_58:M25 58 [a,c,.val (.int v2)] st H Q=if v2 < 0 then M25 78 [a,c,.val (.int v2)] st H Q else M25 62 [a,c,.val (.int v2)] st H Q:=(w_x d4 rfl).trans (w_if (dc (.ifCond .lt 19,3)) (z_lt v2) rfl)
theorem m25_62:M25 62 [a,c,.val (.int v2)] st H Q=if v2 < 64 then M25 68 [a,c,.val (.int v2)] st H Q else M25 78 [a,c,.val (.int v2)] st H Q:=(w_x d4 rfl).trans ((w_ki 64 d31 rfl).trans (w_icmpN (dc (.if_icmp .ge 13,3)) (i_ge v2 64) rfl))
theorem m25_68:M25 68 [.val (.ref (b+1)),c,.val (.int v2)] st (put (b+1) e s A g) Q=(inB v2 (A 18)∧M25 78 [.val (.ref (b+1)),c,.val (.int v2)] st (put (b+1) e s (ou A 18 (setA (A 18) v2 (s 8))) g) Q):=(w_x d0 rfl).trans ((w_get (dc (.getfield 64,3)) gf_64 put_o rfl).trans ((w_x d4 rfl).trans ((w_x d0 rfl).trans ((w_get d34 gf_181 put_o rfl).trans (w_ist d8 rfl put_a18 (by omega) rfl put_w18)))))
theorem m25_78:M25 78 ls st H Q=M25 79 ls (.int 1::st) H Q:=w_con d5 rfl (by decide)
theorem m25_79:M25 79 ls (.int z::st) H Q=Q (some (.int (nar .boolean z))) H:=w_iretN d2 rfl (by simp)
theorem m25_80:M25 80 (.val (.ref (b+1))::.val (.int v1)::ls) st H Q=M25 83 (.val (.ref (b+1))::.val (.int v1)::ls) (.int 0::.int v1::.ref (b+1)::st) H Q:=(w_x d0 rfl).trans ((w_x d1 rfl).trans (w_ki 0 d3 rfl))
theorem m25_83:M25 83 ls [.int a1,.int a0,.ref (b+1)] (put (b+1) e s A g) Q=M14 0 [.val (.ref (b+1)),.val (.int a0),.val (.int a1)] [] (put (b+1) e s A g) (fun v H1 => M25 86 ls (v.toList ++ []) H1 Q):=wv [.int a1,.int a0] [] (dc (.invokevirtual 196,3)) cr25_196 rfl rfl rfl rfl rfl
theorem m25_86:M25 86 ls (.int z::st) H Q=Q (some (.int (nar .boolean z))) H:=w_iretN d2 rfl (by simp)
theorem m26_0:M26 0 (.val (.ref (b+1))::ls) st (put (b+1) e s A g) Q=if (s 14) < 2 then M26 17 (.val (.ref (b+1))::ls) st (put (b+1) e s A g) Q else M26 8 (.val (.ref (b+1))::ls) st (put (b+1) e s A g) Q:=(w_x d0 rfl).trans ((w_get d32 gf_190 put_o rfl).trans ((w_ki 2 d20 rfl).trans (w_icmp (dc (.if_icmp .lt 12,3)) (i_lt (s 14) 2) rfl)))
theorem m26_8:M26 8 (.val (.ref (b+1))::ls) st (put (b+1) e s A g) Q=if 32 < (s 14) then M26 17 (.val (.ref (b+1))::ls) st (put (b+1) e s A g) Q else M26 19 (.val (.ref (b+1))::ls) st (put (b+1) e s A g) Q:=(w_x d0 rfl).trans ((w_get d32 gf_190 put_o rfl).trans ((w_ki 32 d16 rfl).trans (w_icmpN (dc (.if_icmp .le 5,3)) (i_le (s 14) 32) rfl)))
theorem m26_17:M26 17 ls st H Q=M26 18 ls (.int 0::st) H Q:=w_con d3 rfl (by decide)
theorem m26_18:M26 18 ls (.int z::st) H Q=Q (some (.int (nar .boolean z))) H:=w_iretN d2 rfl (by simp)
theorem m26_19:M26 19 (.val (.ref (b+1))::ls) st (put (b+1) e s A g) Q=(inB (((s 14) - 1)) (A 23)∧M26 30 (.val (.ref (b+1))::ls) (.int (getA (A 23) (((s 14) - 1)))::st) (put (b+1) e s A g) Q):=(w_x d0 rfl).trans ((w_get (dc (.getfield 79,3)) gf_79 put_o rfl).trans ((w_x d0 rfl).trans ((w_get d32 gf_190 put_o rfl).trans ((w_ki 1 d5 rfl).trans ((w_x d21 rfl).trans (w_ild d7 rfl put_a23))))))
theorem m26_30u:M26 30 (a::.unset::ls) ((.int v)::st) H Q=M26 31 (a::.val (.int v)::ls) st H Q:=ws 1 (dc (.istore_n 1,1)) rfl rfl rfl rfl rfl rfl
theorem m26_31:M26 31 (.val (.ref (b+1))::ls) st (put (b+1) e s A g) Q=(inB (((s 14) - 2)) (A 23)∧M26 42 (.val (.ref (b+1))::ls) (.int (getA (A 23) (((s 14) - 2)))::st) (put (b+1) e s A g) Q):=(w_x d0 rfl).trans ((w_get (dc (.getfield 79,3)) gf_79 put_o rfl).trans ((w_x d0 rfl).trans ((w_get d32 gf_190 put_o rfl).trans ((w_ki 2 d20 rfl).trans ((w_x d21 rfl).trans (w_ild d7 rfl put_a23))))))
theorem m26_42u:M26 42 (a::c::.unset::ls) ((.int v)::st) H Q=M26 43 (a::c::.val (.int v)::ls) st H Q:=ws 2 d25 rfl rfl rfl rfl rfl rfl
theorem pf26_190:pfR tables_1 y26.cls y26.name 190=some ("AgentExprDbg", 44,.int):=by decide +kernel
theorem m26_43:M26 43 (.val (.ref (b+1))::ls) st (put (b+1) e s A g) Q=M26 53 (.val (.ref (b+1))::ls) st (put (b+1) e (ou s 14 (((s 14) - 1))) A g) Q:=(w_x d0 rfl).trans ((w_x d0 rfl).trans ((w_get d32 gf_190 put_o rfl).trans ((w_ki 1 d5 rfl).trans ((w_x d21 rfl).trans (w_put (dc (.putfield 190,3)) pf26_190 put_o (Nat.succ_le_succ (Nat.zero_le _)) (by show 44 < 60; omega) rfl put_s14)))))
theorem m26_53:M26 53 [.val (.ref (b+1)),.val (.int v1),.val (.int v2),.unset] st (put (b+1) e s A g) Q=if (v1+1) < v2 then M26 72 [.val (.ref (b+1)),.val (.int v1),.val (.int v2),.val (.int (v1+1))] (.int ((s 14) - 1)::.ref ((b+1)+24)::st) (put (b+1) e s A g) Q else M26 76 [.val (.ref (b+1)),.val (.int v1),.val (.int v2),.val (.int (v1+1))] (.int ((s 14) - 1)::.ref ((b+1)+24)::st) (put (b+1) e s A g) Q:=(w_x d1 rfl).trans ((w_ki 1 d5 rfl).trans ((w_x d9 rfl).trans ((ws 3 d17 rfl rfl rfl rfl rfl rfl).trans ((w_x d0 rfl).trans ((w_get (dc (.getfield 79,3)) gf_79 put_o rfl).trans ((w_x d0 rfl).trans ((w_get d32 gf_190 put_o rfl).trans ((w_ki 1 d5 rfl).trans ((w_x d21 rfl).trans ((w_x d4 rfl).trans ((w_x d6 rfl).trans (w_icmpN (dc (.if_icmp .le 7,3)) (i_le v2 (v1+1)) rfl))))))))))))
theorem m26_72:M26 72 (a::c::.val (.int v2)::ls) st H Q=M26 77 (a::c::.val (.int v2)::ls) (.int v2::st) H Q:=(w_x d4 rfl).trans (w_x d14 rfl)
theorem m26_76:M26 76 [a,c,d,.val (.int v)] st H Q=M26 77 [a,c,d,.val (.int v)] (.int v::st) H Q:=w_x d6 rfl
theorem m26_77:M26 77 ls (.int v::.int j::.ref ((b+1)+24)::st) (put (b+1) e s A g) Q=(inB j (A 23)∧M26 78 ls st (put (b+1) e s (ou A 23 (setA (A 23) j v)) g) Q):=w_ist d8 rfl put_a23 (by omega) rfl put_w23
theorem m26_78:M26 78 ls st H Q=M26 79 ls (.int 1::st) H Q:=w_con d5 rfl (by decide)
theorem m26_79:M26 79 ls (.int z::st) H Q=Q (some (.int (nar .boolean z))) H:=w_iretN d2 rfl (by simp)
theorem m27_0:M27 0 (.val (.ref (b+1))::.val (.int v1)::ls) st H Q=M27 5 (.val (.ref (b+1))::.val (.int v1)::ls) (.int 31::.int 0::.int v1::.ref (b+1)::st) H Q:=(w_x d0 rfl).trans ((w_x d1 rfl).trans ((w_ki 0 d3 rfl).trans (w_ki 31 d27 rfl)))
theorem cr27_126:vR tables_1 dn y27 126=some (true,y2,prog_1_method_64_code,4,(some .boolean),3,0):=cp ⟨[.int,.int,.int],some .boolean⟩ rc_2 dn_2 dn_27
theorem m27_5:M27 5 ls [.int a2,.int a1,.int a0,.ref (b+1)] (put (b+1) e s A g) Q=M2 0 [.val (.ref (b+1)),.val (.int a0),.val (.int a1),.val (.int a2)] [] (put (b+1) e s A g) (fun v H1 => M27 8 ls (v.toList ++ []) H1 Q):=wv [.int a2,.int a1,.int a0] [] d18 cr27_126 rfl rfl rfl rfl rfl
theorem m27_8:M27 8 ls (.int x::st) H Q=if x=0 then M27 11 ls st H Q else M27 13 ls st H Q:=w_ifN d10 (z_ne x) rfl
theorem m27_11:M27 11 ls st H Q=M27 12 ls (.int 0::st) H Q:=w_con d3 rfl (by decide)
theorem m27_12:M27 12 ls (.int z::st) H Q=Q (some (.int (nar .boolean z))) H:=w_iretN d2 rfl (by simp)
theorem m27_13:M27 13 [.val (.ref (b+1)),.val (.int v1),.val (.int v2)] st (put (b+1) e s A g) Q=(inB v1 (A 1)∧M27 20 [.val (.ref (b+1)),.val (.int v1),.val (.int v2)] st (put (b+1) e s (ou A 1 (setA (A 1) v1 v2)) g) Q):=(w_x d0 rfl).trans ((w_get (dc (.getfield 13,3)) gf_13 put_o rfl).trans ((w_x d1 rfl).trans ((w_x d4 rfl).trans (w_ist d8 rfl put_a1 (by omega) rfl put_w1))))
theorem m27_20:M27 20 ls st H Q=M27 21 ls (.int 1::st) H Q:=w_con d5 rfl (by decide)
theorem m27_21:M27 21 ls (.int z::st) H Q=Q (some (.int (nar .boolean z))) H:=w_iretN d2 rfl (by simp)
theorem m28_0:M28 0 [a,c,.unset] st H Q=M28 2 [a,c,.val (.int 0)] st H Q:=(w_ki 0 d3 rfl).trans (ws 2 d25 rfl rfl rfl rfl rfl rfl)
theorem m28_2:M28 2 [a,c,.val (.int v2)] st H Q=if v2 < 4 then M28 7 [a,c,.val (.int v2)] st H Q else M28 35 [a,c,.val (.int v2)] st H Q:=(w_x d4 rfl).trans ((w_ki 4 d12 rfl).trans (w_icmpN (dc (.if_icmp .ge 31,3)) (i_ge v2 4) rfl))
theorem m28_7:M28 7 [.val (.ref (b+1)),c,.val (.int v2)] st (put (b+1) e s A g) Q=(inB v2 (A 7)∧M28 13 [.val (.ref (b+1)),c,.val (.int v2)] (.int (getA (A 7) v2)::st) (put (b+1) e s A g) Q):=(w_x d0 rfl).trans ((w_get d33 gf_31 put_o rfl).trans ((w_x d4 rfl).trans (w_ild d7 rfl put_a7)))
theorem m28_13:M28 13 ls st H Q=M28 14 ls (.int 2::st) H Q:=w_con d20 rfl (by decide)
theorem m28_14:M28 14 ls (.int y::.int x::st) H Q=if x=y then M28 17 ls st H Q else M28 29 ls st H Q:=w_icmpN (dc (.if_icmp .ne 15,3)) (i_ne x y) rfl
theorem m28_17:M28 17 [.val (.ref (b+1)),c,.val (.int v2)] st (put (b+1) e s A g) Q=(inB v2 (A 8)∧M28 23 [.val (.ref (b+1)),c,.val (.int v2)] (.int (getA (A 8) v2)::st) (put (b+1) e s A g) Q):=(w_x d0 rfl).trans ((w_get (dc (.getfield 34,3)) gf_34 put_o rfl).trans ((w_x d4 rfl).trans (w_ild d7 rfl put_a8)))
theorem m28_23:M28 23 (a::.val (.int v)::ls) st H Q=M28 24 (a::.val (.int v)::ls) (.int v::st) H Q:=w_x d1 rfl
theorem m28_24:M28 24 ls (.int y::.int x::st) H Q=if x=y then M28 27 ls st H Q else M28 29 ls st H Q:=w_icmpN (dc (.if_icmp .ne 5,3)) (i_ne x y) rfl
theorem m28_27:M28 27 [a,c,.val (.int v)] st H Q=M28 28 [a,c,.val (.int v)] (.int v::st) H Q:=w_x d4 rfl
theorem m28_28:M28 28 ls (.int z::st) H Q=Q (some (.int z)) H:=w_iret d2 rfl
theorem m28_29:M28 29 [a,c,.val (.int v2)] st H Q=M28 2 [a,c,.val (.int (v2+1))] st H Q:=(w_iinc (dc (.iinc 2 1,3)) rfl (by decide) rfl).trans (w_x (dc (.goto (-30),3)) rfl)
theorem m28_35:M28 35 ls st H Q=M28 36 ls (.int (-1)::st) H Q:=w_con (dc (.iconst (-1),1)) rfl (by decide)
theorem m28_36:M28 36 ls (.int z::st) H Q=Q (some (.int z)) H:=w_iret d2 rfl
theorem m29_0:M29 0 (a::.val (.int v1)::ls) st H Q=if v1 < 1 then M29 5 (a::.val (.int v1)::ls) st H Q else M29 7 (a::.val (.int v1)::ls) st H Q:=(w_x d1 rfl).trans ((w_ki 1 d5 rfl).trans (w_icmpN (dc (.if_icmp .ge 5,3)) (i_ge v1 1) rfl))
theorem m29_5:M29 5 ls st H Q=M29 6 ls (.int (-1)::st) H Q:=w_con (dc (.iconst (-1),1)) rfl (by decide)
theorem m29_6:M29 6 ls (.int z::st) H Q=Q (some (.int z)) H:=w_iret d2 rfl
theorem m29_7:M29 7 (a::.val (.int v1)::ls) st H Q=if 1000 < v1 then M29 14 (a::.val (.int v1)::ls) st H Q else M29 20 (a::.val (.int v1)::ls) st H Q:=(w_x d1 rfl).trans ((w_ki 1000 (dc (.sipush 1000,3)) rfl).trans (w_icmpN (dc (.if_icmp .le 9,3)) (i_le v1 1000) rfl))
theorem m29_14:M29 14 ls st H Q=M29 21 ls (.int 1000::st) H Q:=(w_ki 1000 (dc (.sipush 1000,3)) rfl).trans (w_x d14 rfl)
theorem m29_20:M29 20 (a::.val (.int v)::ls) st H Q=M29 21 (a::.val (.int v)::ls) (.int v::st) H Q:=w_x d1 rfl
theorem m29_21u:M29 21 (a::c::.unset::ls) ((.int v)::st) H Q=M29 22 (a::c::.val (.int v)::ls) st H Q:=ws 2 d25 rfl rfl rfl rfl rfl rfl
theorem pf29_235:pfR tables_1 y29.cls y29.name 235=some ("AgentExprDbg", 45,.int):=by decide +kernel
theorem m29_22:M29 22 (.val (.ref (b+1))::ls) st (put (b+1) e s A g) Q=M29 27 (.val (.ref (b+1))::ls) st (put (b+1) e (ou s 3 0) A g) Q:=(w_x d0 rfl).trans ((w_ki 0 d3 rfl).trans (w_put (dc (.putfield 235,3)) pf29_235 put_o (Nat.succ_le_succ (Nat.zero_le _)) (by show 45 < 60; omega) rfl put_s3))
theorem pf29_116:pfR tables_1 y29.cls y29.name 116=some ("AgentExprDbg", 35,.int):=by decide +kernel
theorem m29_27:M29 27 (.val (.ref (b+1))::ls) st (put (b+1) e s A g) Q=M29 32 (.val (.ref (b+1))::ls) st (put (b+1) e (ou s 5 0) A g) Q:=(w_x d0 rfl).trans ((w_ki 0 d3 rfl).trans (w_put (dc (.putfield 116,3)) pf29_116 put_o (Nat.succ_le_succ (Nat.zero_le _)) (by show 35 < 60; omega) rfl put_s5))
theorem m29_32:M29 32 [.val (.ref (b+1)),c,d,.unset] st (put (b+1) e s A g) Q=if (s 1)=0 then M29 41 [.val (.ref (b+1)),c,d,.val (.int 1)] st (put (b+1) e s A g) Q else M29 47 [.val (.ref (b+1)),c,d,.val (.int 1)] st (put (b+1) e s A g) Q:=(w_ki 1 d5 rfl).trans ((ws 3 d17 rfl rfl rfl rfl rfl rfl).trans ((w_x d0 rfl).trans ((w_get (dc (.getfield 137,3)) gf_137 put_o rfl).trans (w_ifN (dc (.ifCond .ne 9,3)) (z_ne (s 1)) rfl))))
theorem m29_41:M29 41 (.val (.ref (b+1))::c::.val (.int v2)::ls) st H Q=M29 43 (.val (.ref (b+1))::c::.val (.int v2)::ls) (.int v2::.ref (b+1)::st) H Q:=(w_x d0 rfl).trans (w_x d4 rfl)
theorem cr29_238:vR tables_1 dn y29 238=some (true,y30,prog_1_method_35_code,4,(some .int),1,0):=cp ⟨[.int],some .int⟩ rc_30 dn_30 dn_29
theorem m29_43:M29 43 ls [.int a0,.ref (b+1)] (put (b+1) e s A g) Q=M30 0 [.val (.ref (b+1)),.val (.int a0),.unset,.unset] [] (put (b+1) e s A g) (fun v H1 => M29 46 ls (v.toList ++ []) H1 Q):=wv [.int a0] [] (dc (.invokevirtual 238,3)) cr29_238 rfl rfl rfl rfl rfl
theorem m29_46i:M29 46 [a,c,d,.val (.int z)] ((.int v)::st) H Q=M29 47 [a,c,d,.val (.int v)] st H Q:=ws 3 d17 rfl rfl rfl rfl rfl rfl
theorem pf29_113:pfR tables_1 y29.cls y29.name 113=some ("AgentExprDbg", 34,.int):=by decide +kernel
theorem m29_47:M29 47 [.val (.ref (b+1)),c,d,.val (.int v3)] st (put (b+1) e s A g) Q=M29 52 [.val (.ref (b+1)),c,d,.val (.int v3)] st (put (b+1) e (ou s 4 v3) A g) Q:=(w_x d0 rfl).trans ((w_x d6 rfl).trans (w_put (dc (.putfield 113,3)) pf29_113 put_o (Nat.succ_le_succ (Nat.zero_le _)) (by show 34 < 60; omega) rfl put_s4))
theorem m29_52:M29 52 [a,c,d,.val (.int v)] st H Q=M29 53 [a,c,d,.val (.int v)] (.int v::st) H Q:=w_x d6 rfl
theorem m29_53:M29 53 ls (.int z::st) H Q=Q (some (.int z)) H:=w_iret d2 rfl
theorem m30_0:M30 0 (a::c::.unset::ls) st H Q=M30 2 (a::c::.val (.int 0)::ls) st H Q:=(w_ki 0 d3 rfl).trans (ws 2 d25 rfl rfl rfl rfl rfl rfl)
theorem m30_2:M30 2 (a::.val (.int v1)::.val (.int v2)::ls) st H Q=if v2 < v1 then M30 7 (a::.val (.int v1)::.val (.int v2)::ls) st H Q else M30 31 (a::.val (.int v1)::.val (.int v2)::ls) st H Q:=(w_x d4 rfl).trans ((w_x d1 rfl).trans (w_icmpN (dc (.if_icmp .ge 27,3)) (i_ge v2 v1) rfl))
theorem m30_7:M30 7 (a::c::.val (.int v2)::ls) st H Q=if v2 < 1000 then M30 14 (a::c::.val (.int v2)::ls) st H Q else M30 31 (a::c::.val (.int v2)::ls) st H Q:=(w_x d4 rfl).trans ((w_ki 1000 (dc (.sipush 1000,3)) rfl).trans (w_icmpN (dc (.if_icmp .ge 20,3)) (i_ge v2 1000) rfl))
theorem m30_14:M30 14 (.val (.ref r)::ls) st H Q=M30 15 (.val (.ref r)::ls) (.ref r::st) H Q:=w_x d0 rfl
theorem cr30_241:vR tables_1 dn y30 241=some (true,y31,prog_1_method_36_code,4,(some .int),0,0):=cp ⟨[],some .int⟩ rc_31 dn_31 dn_30
theorem m30_15:M30 15 ls [.ref (b+1)] (put (b+1) e s A g) Q=M31 0 [.val (.ref (b+1)),.unset,.unset,.unset] [] (put (b+1) e s A g) (fun v H1 => M30 18 ls (v.toList ++ []) H1 Q):=wv [] [] (dc (.invokevirtual 241,3)) cr30_241 rfl rfl rfl rfl rfl
theorem m30_18g (h:okS f):M30 18 [a,c,d,f] ((.int v)::st) H Q=M30 19 [a,c,d,.val (.int v)] st H Q:=by rcases h with rfl | ⟨z,rfl⟩ <;> exact ws 3 d17 rfl rfl rfl rfl rfl rfl
theorem m30_19:M30 19 [a,c,d,.val (.int v3)] st H Q=if v3=0 then M30 25 [a,c,d,.val (.int v3)] st H Q else M30 23 [a,c,d,.val (.int v3)] st H Q:=(w_x d6 rfl).trans (w_if (dc (.ifCond .eq 5,3)) (z_eq v3) rfl)
theorem m30_23:M30 23 [a,c,d,.val (.int v)] st H Q=M30 24 [a,c,d,.val (.int v)] (.int v::st) H Q:=w_x d6 rfl
theorem m30_24:M30 24 ls (.int z::st) H Q=Q (some (.int z)) H:=w_iret d2 rfl
theorem m30_25:M30 25 (a::c::.val (.int v2)::ls) st H Q=M30 2 (a::c::.val (.int (v2+1))::ls) st H Q:=(w_iinc (dc (.iinc 2 1,3)) rfl (by decide) rfl).trans (w_x (dc (.goto (-26),3)) rfl)
theorem m30_31:M30 31 ls st H Q=M30 32 ls (.int 0::st) H Q:=w_con d3 rfl (by decide)
theorem m30_32:M30 32 ls (.int z::st) H Q=Q (some (.int z)) H:=w_iret d2 rfl
theorem m31_0:M31 0 (.val (.ref (b+1))::.unset::ls) st (put (b+1) e s A g) Q=if (s 2)=0 then M31 23 (.val (.ref (b+1))::.val (.int ((s 0) &&& 31))::ls) st (put (b+1) e s A g) Q else M31 15 (.val (.ref (b+1))::.val (.int ((s 0) &&& 31))::ls) st (put (b+1) e s A g) Q:=(w_x d0 rfl).trans ((w_get (dc (.getfield 134,3)) gf_134 put_o rfl).trans ((w_ki 31 d27 rfl).trans ((w_x (dc (.iand,1)) rfl).trans ((ws 1 (dc (.istore_n 1,1)) rfl rfl rfl rfl rfl rfl).trans ((w_x d0 rfl).trans ((w_get (dc (.getfield 141,3)) gf_141 put_o rfl).trans (w_if (dc (.ifCond .eq 11,3)) (z_eq (s 2)) rfl)))))))
theorem pf31_141:pfR tables_1 y31.cls y31.name 141=some ("AgentExprDbg", 48,.boolean):=by decide +kernel
theorem m31_15:M31 15 (.val (.ref (b+1))::ls) st (put (b+1) e s A g) Q=M31 20 (.val (.ref (b+1))::ls) st (put (b+1) e (ou s 2 (nar .boolean 0)) A g) Q:=(w_x d0 rfl).trans ((w_ki 0 d3 rfl).trans (w_put (dc (.putfield 141,3)) pf31_141 put_o (Nat.succ_le_succ (Nat.zero_le _)) (by show 48 < 60; omega) rfl put_s2))
theorem m31_20:M31 20 ls st H Q=M31 46 ls st H Q:=w_x (dc (.goto 26,3)) rfl
theorem m31_23:M31 23 (.val (.ref (b+1))::.val (.int v1)::ls) st H Q=M31 25 (.val (.ref (b+1))::.val (.int v1)::ls) (.int v1::.ref (b+1)::st) H Q:=(w_x d0 rfl).trans (w_x d1 rfl)
theorem cr31_232:vR tables_1 dn y31 232=some (true,y28,prog_1_method_33_code,3,(some .int),1,111):=cp ⟨[.int],some .int⟩ rc_28 dn_28 dn_31
theorem m31_25:M31 25 ls [.int a0,.ref (b+1)] (put (b+1) e s A g) Q=M28 0 [.val (.ref (b+1)),.val (.int a0),.unset] [] (put (b+1) e s A g) (fun v H1 => M31 28 ls (v.toList ++ []) H1 Q):=wv [.int a0] [] (dc (.invokevirtual 232,3)) cr31_232 rfl rfl rfl rfl rfl
theorem m31_28u:M31 28 (a::c::.unset::ls) ((.int v)::st) H Q=M31 29 (a::c::.val (.int v)::ls) st H Q:=ws 2 d25 rfl rfl rfl rfl rfl rfl
theorem m31_29:M31 29 (a::c::.val (.int v2)::ls) st H Q=if v2 < 0 then M31 46 (a::c::.val (.int v2)::ls) st H Q else M31 33 (a::c::.val (.int v2)::ls) st H Q:=(w_x d4 rfl).trans (w_if (dc (.ifCond .lt 16,3)) (z_lt v2) rfl)
theorem m31_33:M31 33 (.val (.ref (b+1))::.val (.int v1)::.val (.int v2)::ls) st H Q=M31 36 (.val (.ref (b+1))::.val (.int v1)::.val (.int v2)::ls) (.int v1::.int v2::.ref (b+1)::st) H Q:=(w_x d0 rfl).trans ((w_x d4 rfl).trans (w_x d1 rfl))
theorem cr31_245:vR tables_1 dn y31 245=some (true,y50,prog_1_method_39_code,4,(some .int),2,0):=cp ⟨[.int,.int],some .int⟩ rc_50 dn_50 dn_31
theorem m31_36:M31 36 ls [.int a1,.int a0,.ref (b+1)] (put (b+1) e s A g) Q=M50 0 [.val (.ref (b+1)),.val (.int a0),.val (.int a1),.unset] [] (put (b+1) e s A g) (fun v H1 => M31 39 ls (v.toList ++ []) H1 Q):=wv [.int a1,.int a0] [] (dc (.invokevirtual 245,3)) cr31_245 rfl rfl rfl rfl rfl
theorem m31_39u:M31 39 [a,c,d,.unset] ((.int v)::st) H Q=M31 40 [a,c,d,.val (.int v)] st H Q:=ws 3 d17 rfl rfl rfl rfl rfl rfl
theorem m31_40:M31 40 [a,c,d,.val (.int v3)] st H Q=if v3=0 then M31 46 [a,c,d,.val (.int v3)] st H Q else M31 44 [a,c,d,.val (.int v3)] st H Q:=(w_x d6 rfl).trans (w_if (dc (.ifCond .eq 5,3)) (z_eq v3) rfl)
theorem m31_44:M31 44 [a,c,d,.val (.int v)] st H Q=M31 45 [a,c,d,.val (.int v)] (.int v::st) H Q:=w_x d6 rfl
theorem m31_45:M31 45 ls (.int z::st) H Q=Q (some (.int z)) H:=w_iret d2 rfl
theorem m31_46:M31 46 (.val (.ref (b+1))::.val (.int v1)::ls) st H Q=M31 48 (.val (.ref (b+1))::.val (.int v1)::ls) (.int v1::.ref (b+1)::st) H Q:=(w_x d0 rfl).trans (w_x d1 rfl)
theorem cr31_249:vR tables_1 dn y31 249=some (true,y32,prog_1_method_37_code,6,none,1,92):=cp ⟨[.int],none⟩ rc_32 dn_32 dn_31
theorem m31_48:M31 48 ls [.int a0,.ref (b+1)] (put (b+1) e s A g) Q=M32 0 [.val (.ref (b+1)),.val (.int a0),.unset,.unset,.unset,.unset] [] (put (b+1) e s A g) (fun v H1 => M31 51 ls (v.toList ++ []) H1 Q):=wv [.int a0] [] (dc (.invokevirtual 249,3)) cr31_249 rfl rfl rfl rfl rfl
theorem pf31_235:pfR tables_1 y31.cls y31.name 235=some ("AgentExprDbg", 45,.int):=by decide +kernel
theorem m31_51:M31 51 (.val (.ref (b+1))::ls) st (put (b+1) e s A g) Q=M31 61 (.val (.ref (b+1))::ls) st (put (b+1) e (ou s 3 (((s 3)+1))) A g) Q:=(w_x d0 rfl).trans ((w_x d0 rfl).trans ((w_get (dc (.getfield 235,3)) gf_235 put_o rfl).trans ((w_ki 1 d5 rfl).trans ((w_x d9 rfl).trans (w_put (dc (.putfield 235,3)) pf31_235 put_o (Nat.succ_le_succ (Nat.zero_le _)) (by show 45 < 60; omega) rfl put_s3)))))
theorem m31_61:M31 61 (.val (.ref (b+1))::ls) st (put (b+1) e s A g) Q=if (s 1)=0 then M31 70 (.val (.ref (b+1))::ls) st (put (b+1) e s A g) Q else M31 68 (.val (.ref (b+1))::ls) st (put (b+1) e s A g) Q:=(w_x d0 rfl).trans ((w_get (dc (.getfield 137,3)) gf_137 put_o rfl).trans (w_if (dc (.ifCond .eq 5,3)) (z_eq (s 1)) rfl))
theorem m31_68:M31 68 ls st H Q=M31 69 ls (.int 1::st) H Q:=w_con d5 rfl (by decide)
theorem m31_69:M31 69 ls (.int z::st) H Q=Q (some (.int z)) H:=w_iret d2 rfl
theorem m31_70:M31 70 ls st H Q=M31 71 ls (.int 0::st) H Q:=w_con d3 rfl (by decide)
theorem m31_71:M31 71 ls (.int z::st) H Q=Q (some (.int z)) H:=w_iret d2 rfl
theorem m32_0:M32 0 (.val (.ref (b+1))::.val (.int v1)::.unset::ls) st (put (b+1) e s A g) Q=(inB (v1 &&& 31) (A 2)∧M32 11 (.val (.ref (b+1))::.val (.int v1)::.val (.int (v1 &&& 31))::ls) (.int (getA (A 2) (v1 &&& 31))::st) (put (b+1) e s A g) Q):=(w_x d1 rfl).trans ((w_ki 31 d27 rfl).trans ((w_x (dc (.iand,1)) rfl).trans ((ws 2 d25 rfl rfl rfl rfl rfl rfl).trans ((w_x d0 rfl).trans ((w_get (dc (.getfield 16,3)) gf_16 put_o rfl).trans ((w_x d4 rfl).trans (w_ild d7 rfl put_a2)))))))
theorem m32_11u:M32 11 (a::c::d::.unset::ls) ((.int v)::st) H Q=M32 12 (a::c::d::.val (.int v)::ls) st H Q:=ws 3 d17 rfl rfl rfl rfl rfl rfl
theorem m32_12:M32 12 (.val (.ref (b+1))::c::.val (.int v2)::ls) st (put (b+1) e s A g) Q=(inB v2 (A 3)∧M32 18 (.val (.ref (b+1))::c::.val (.int v2)::ls) (.int (getA (A 3) v2)::st) (put (b+1) e s A g) Q):=(w_x d0 rfl).trans ((w_get (dc (.getfield 19,3)) gf_19 put_o rfl).trans ((w_x d4 rfl).trans (w_ild d7 rfl put_a3)))
theorem m32_18:M32 18 ls st H Q=M32 20 ls (.int 7::st) H Q:=w_con d22 rfl (by decide)
theorem m32_20:M32 20 ls (.int y::.int x::st) H Q=M32 21 ls (.int (x &&& y)::st) H Q:=w_x (dc (.iand,1)) rfl
theorem m32_21u:M32 21 (a::c::d::f::.unset::ls) ((.int v)::st) H Q=M32 23 (a::c::d::f::.val (.int v)::ls) st H Q:=ws 4 d23 rfl rfl rfl rfl rfl rfl
theorem m32_23:M32 23 (.val (.ref (b+1))::c::.val (.int v2)::ls) st (put (b+1) e s A g) Q=(inB v2 (A 4)∧M32 29 (.val (.ref (b+1))::c::.val (.int v2)::ls) (.int (getA (A 4) v2)::st) (put (b+1) e s A g) Q):=(w_x d0 rfl).trans ((w_get (dc (.getfield 22,3)) gf_22 put_o rfl).trans ((w_x d4 rfl).trans (w_ild d7 rfl put_a4)))
theorem m32_29u:M32 29 [a,c,d,f,k,.unset] ((.int v)::st) H Q=M32 31 [a,c,d,f,k,.val (.int v)] st H Q:=ws 5 (dc (.istore 5,2)) rfl rfl rfl rfl rfl rfl
theorem m32_31:M32 31 (a::c::d::.val (.int v3)::ls) st H Q=if v3=0 then M32 35 (a::c::d::.val (.int v3)::ls) st H Q else M32 46 (a::c::d::.val (.int v3)::ls) st H Q:=(w_x d6 rfl).trans (w_ifN (dc (.ifCond .ne 14,3)) (z_ne v3) rfl)
theorem pf32_137:pfR tables_1 y32.cls y32.name 137=some ("AgentExprDbg", 46,.boolean):=by decide +kernel
theorem m32_35:M32 35 (.val (.ref (b+1))::ls) st (put (b+1) e s A g) Q=M32 40 (.val (.ref (b+1))::ls) st (put (b+1) e (ou s 1 (nar .boolean 1)) A g) Q:=(w_x d0 rfl).trans ((w_ki 1 d5 rfl).trans (w_put (dc (.putfield 137,3)) pf32_137 put_o (Nat.succ_le_succ (Nat.zero_le _)) (by show 46 < 60; omega) rfl put_s1))
theorem pf32_134:pfR tables_1 y32.cls y32.name 134=some ("AgentExprDbg", 47,.int):=by decide +kernel
theorem m32_40:M32 40 (.val (.ref (b+1))::c::.val (.int v2)::ls) st (put (b+1) e s A g) Q=M32 45 (.val (.ref (b+1))::c::.val (.int v2)::ls) st (put (b+1) e (ou s 0 v2) A g) Q:=(w_x d0 rfl).trans ((w_x d4 rfl).trans (w_put (dc (.putfield 134,3)) pf32_134 put_o (Nat.succ_le_succ (Nat.zero_le _)) (by show 47 < 60; omega) rfl put_s0))
theorem m32_45:M32 45 ls [] H Q=Q none H:=w_vret d24 rfl
theorem m32_46:M32 46 (a::c::d::.val (.int v3)::ls) st H Q=if v3=7 then M32 52 (a::c::d::.val (.int v3)::ls) st H Q else M32 81 (a::c::d::.val (.int v3)::ls) st H Q:=(w_x d6 rfl).trans ((w_ki 7 d22 rfl).trans (w_icmpN (dc (.if_icmp .ne 32,3)) (i_ne v3 7) rfl))
theorem m32_52:M32 52 (.val (.ref (b+1))::c::d::f::.val (.int v4)::ls) st (put (b+1) e s A g) Q=(inB v4 (A 0)∧M32 60 (.val (.ref (b+1))::c::d::f::.val (.int v4)::ls) (.int (getA (A 0) v4)::.ref (b+1)::st) (put (b+1) e s A g) Q):=(w_x d0 rfl).trans ((w_x d0 rfl).trans ((w_get d26 gf_7 put_o rfl).trans ((w_x d11 rfl).trans (w_ild d7 rfl put_a0))))
theorem m32_60:M32 60 ls (.int x::st) H Q=if x=0 then M32 71 ls st H Q else M32 63 ls st H Q:=w_if (dc (.ifCond .eq 11,3)) (z_eq x) rfl
theorem m32_63:M32 63 [a,c,d,f,k,.val (.int v5)] st H Q=M32 77 [a,c,d,f,k,.val (.int v5)] (.int (v5 &&& 31)::st) H Q:=(w_x (dc (.iload 5,2)) rfl).trans ((w_ki 31 d27 rfl).trans ((w_x (dc (.iand,1)) rfl).trans (w_x (dc (.goto 9,3)) rfl)))
theorem m32_71:M32 71 (a::c::.val (.int v2)::ls) st H Q=M32 77 (a::c::.val (.int v2)::ls) (.int ((v2+1) &&& 31)::st) H Q:=(w_x d4 rfl).trans ((w_ki 1 d5 rfl).trans ((w_x d9 rfl).trans ((w_ki 31 d27 rfl).trans (w_x (dc (.iand,1)) rfl))))
theorem m32_77:M32 77 ls (.int v::.ref (b+1)::st) (put (b+1) e s A g) Q=M32 80 ls st (put (b+1) e (ou s 0 v) A g) Q:=w_put (dc (.putfield 134,3)) pf32_134 put_o (Nat.succ_le_succ (Nat.zero_le _)) (by show 47 < 60; omega) rfl put_s0
theorem m32_80:M32 80 ls [] H Q=Q none H:=w_vret d24 rfl
theorem m32_81:M32 81 [.val (.ref (b+1)),c,d,.val (.int v3),.val (.int v4),.val (.int v5)] st H Q=M32 87 [.val (.ref (b+1)),c,d,.val (.int v3),.val (.int v4),.val (.int v5)] (.int v5::.int v4::.int v3::.ref (b+1)::st) H Q:=(w_x d0 rfl).trans ((w_x d6 rfl).trans ((w_x d11 rfl).trans (w_x (dc (.iload 5,2)) rfl)))
theorem cr32_252:vR tables_1 dn y32 252=some (true,y63,prog_1_method_38_code,5,none,3,0):=cp ⟨[.int,.int,.int],none⟩ rc_63 dn_63 dn_32
theorem m32_87:M32 87 ls [.int a2,.int a1,.int a0,.ref (b+1)] (put (b+1) e s A g) Q=M63 0 [.val (.ref (b+1)),.val (.int a0),.val (.int a1),.val (.int a2),.unset] [] (put (b+1) e s A g) (fun v H1 => M32 90 ls (v.toList ++ []) H1 Q):=wv [.int a2,.int a1,.int a0] [] (dc (.invokevirtual 252,3)) cr32_252 rfl rfl rfl rfl rfl
theorem m32_90:M32 90 (.val (.ref (b+1))::c::.val (.int v2)::ls) st (put (b+1) e s A g) Q=M32 100 (.val (.ref (b+1))::c::.val (.int v2)::ls) st (put (b+1) e (ou s 0 (((v2+1) &&& 31))) A g) Q:=(w_x d0 rfl).trans ((w_x d4 rfl).trans ((w_ki 1 d5 rfl).trans ((w_x d9 rfl).trans ((w_ki 31 d27 rfl).trans ((w_x (dc (.iand,1)) rfl).trans (w_put (dc (.putfield 134,3)) pf32_134 put_o (Nat.succ_le_succ (Nat.zero_le _)) (by show 47 < 60; omega) rfl put_s0))))))
theorem m32_100:M32 100 ls [] H Q=Q none H:=w_vret d24 rfl
theorem m33_0:M33 0 (.val (.ref (b+1))::.val (.int v1)::ls) st H Q=M33 4 (.val (.ref (b+1))::.val (.int v1)::ls) (.int 3::.int 0::.int v1::.ref (b+1)::st) H Q:=(w_x d0 rfl).trans ((w_x d1 rfl).trans ((w_ki 0 d3 rfl).trans (w_ki 3 d15 rfl)))
theorem cr33_126:vR tables_1 dn y33 126=some (true,y2,prog_1_method_64_code,4,(some .boolean),3,0):=cp ⟨[.int,.int,.int],some .boolean⟩ rc_2 dn_2 dn_33
theorem m33_4:M33 4 ls [.int a2,.int a1,.int a0,.ref (b+1)] (put (b+1) e s A g) Q=M2 0 [.val (.ref (b+1)),.val (.int a0),.val (.int a1),.val (.int a2)] [] (put (b+1) e s A g) (fun v H1 => M33 7 ls (v.toList ++ []) H1 Q):=wv [.int a2,.int a1,.int a0] [] d18 cr33_126 rfl rfl rfl rfl rfl
theorem m33_7:M33 7 ls (.int x::st) H Q=if x=0 then M33 10 ls st H Q else M33 12 ls st H Q:=w_ifN d10 (z_ne x) rfl
theorem m33_10:M33 10 ls st H Q=M33 11 ls (.int 0::st) H Q:=w_con d3 rfl (by decide)
theorem m33_11:M33 11 ls (.int z::st) H Q=Q (some (.int z)) H:=w_iret d2 rfl
theorem m33_12:M33 12 (.val (.ref (b+1))::.val (.int v1)::ls) st (put (b+1) e s A g) Q=(inB v1 (A 7)∧M33 18 (.val (.ref (b+1))::.val (.int v1)::ls) (.int (getA (A 7) v1)::st) (put (b+1) e s A g) Q):=(w_x d0 rfl).trans ((w_get d33 gf_31 put_o rfl).trans ((w_x d1 rfl).trans (w_ild d7 rfl put_a7)))
theorem m33_18:M33 18 ls st H Q=M33 19 ls (.int 2::st) H Q:=w_con d20 rfl (by decide)
theorem m33_19:M33 19 ls (.int y::.int x::st) H Q=if x=y then M33 22 ls st H Q else M33 26 ls st H Q:=w_icmpN (dc (.if_icmp .ne 7,3)) (i_ne x y) rfl
theorem m33_22:M33 22 ls st H Q=M33 27 ls (.int 1::st) H Q:=(w_ki 1 d5 rfl).trans (w_x d14 rfl)
theorem m33_26:M33 26 ls st H Q=M33 27 ls (.int 0::st) H Q:=w_con d3 rfl (by decide)
theorem m33_27u:M33 27 [a,c,d,.unset] ((.int v)::st) H Q=M33 28 [a,c,d,.val (.int v)] st H Q:=ws 3 d17 rfl rfl rfl rfl rfl rfl
theorem m33_28:M33 28 (a::c::.val (.int v2)::ls) st H Q=if v2=0 then M33 32 (a::c::.val (.int v2)::ls) st H Q else M33 39 (a::c::.val (.int v2)::ls) st H Q:=(w_x d4 rfl).trans (w_ifN (dc (.ifCond .ne 10,3)) (z_ne v2) rfl)
theorem m33_32:M33 32 (.val (.ref (b+1))::.val (.int v1)::ls) st (put (b+1) e s A g) Q=(inB v1 (A 7)∧M33 38 (.val (.ref (b+1))::.val (.int v1)::ls) (.int (getA (A 7) v1)::st) (put (b+1) e s A g) Q):=(w_x d0 rfl).trans ((w_get d33 gf_31 put_o rfl).trans ((w_x d1 rfl).trans (w_ild d7 rfl put_a7)))
theorem m33_38:M33 38 ls (.int z::st) H Q=Q (some (.int z)) H:=w_iret d2 rfl
theorem m33_39:M33 39 (a::c::.val (.int v2)::ls) st H Q=if v2=1 then M33 44 (a::c::.val (.int v2)::ls) st H Q else M33 59 (a::c::.val (.int v2)::ls) st H Q:=(w_x d4 rfl).trans ((w_ki 1 d5 rfl).trans (w_icmpN (dc (.if_icmp .ne 18,3)) (i_ne v2 1) rfl))
theorem m33_44:M33 44 [a,c,d,.val (.int v3)] st H Q=if v3=0 then M33 57 [a,c,d,.val (.int v3)] st H Q else M33 48 [a,c,d,.val (.int v3)] st H Q:=(w_x d6 rfl).trans (w_if d35 (z_eq v3) rfl)
theorem m33_48:M33 48 (.val (.ref (b+1))::.val (.int v1)::ls) st (put (b+1) e s A g) Q=(inB v1 (A 8)∧M33 54 (.val (.ref (b+1))::.val (.int v1)::ls) (.int (getA (A 8) v1)::st) (put (b+1) e s A g) Q):=(w_x d0 rfl).trans ((w_get (dc (.getfield 34,3)) gf_34 put_o rfl).trans ((w_x d1 rfl).trans (w_ild d7 rfl put_a8)))
theorem m33_54:M33 54 ls st H Q=M33 58 ls st H Q:=w_x d14 rfl
theorem m33_57:M33 57 ls st H Q=M33 58 ls (.int (-1)::st) H Q:=w_con (dc (.iconst (-1),1)) rfl (by decide)
theorem m33_58:M33 58 ls (.int z::st) H Q=Q (some (.int z)) H:=w_iret d2 rfl
theorem m33_59:M33 59 (a::c::.val (.int v2)::ls) st H Q=if v2=2 then M33 64 (a::c::.val (.int v2)::ls) st H Q else M33 79 (a::c::.val (.int v2)::ls) st H Q:=(w_x d4 rfl).trans ((w_ki 2 d20 rfl).trans (w_icmpN (dc (.if_icmp .ne 18,3)) (i_ne v2 2) rfl))
theorem m33_64:M33 64 [a,c,d,.val (.int v3)] st H Q=if v3=0 then M33 77 [a,c,d,.val (.int v3)] st H Q else M33 68 [a,c,d,.val (.int v3)] st H Q:=(w_x d6 rfl).trans (w_if d35 (z_eq v3) rfl)
theorem m33_68:M33 68 (.val (.ref (b+1))::.val (.int v1)::ls) st (put (b+1) e s A g) Q=(inB v1 (A 9)∧M33 74 (.val (.ref (b+1))::.val (.int v1)::ls) (.int (getA (A 9) v1)::st) (put (b+1) e s A g) Q):=(w_x d0 rfl).trans ((w_get (dc (.getfield 37,3)) gf_37 put_o rfl).trans ((w_x d1 rfl).trans (w_ild d7 rfl put_a9)))
theorem m33_74:M33 74 ls st H Q=M33 78 ls st H Q:=w_x d14 rfl
theorem m33_77:M33 77 ls st H Q=M33 78 ls (.int (-1)::st) H Q:=w_con (dc (.iconst (-1),1)) rfl (by decide)
theorem m33_78:M33 78 ls (.int z::st) H Q=Q (some (.int z)) H:=w_iret d2 rfl
theorem m33_79:M33 79 (a::c::.val (.int v2)::ls) st H Q=if v2=3 then M33 84 (a::c::.val (.int v2)::ls) st H Q else M33 91 (a::c::.val (.int v2)::ls) st H Q:=(w_x d4 rfl).trans ((w_ki 3 d15 rfl).trans (w_icmpN (dc (.if_icmp .ne 10,3)) (i_ne v2 3) rfl))
theorem m33_84:M33 84 (.val (.ref (b+1))::.val (.int v1)::ls) st (put (b+1) e s A g) Q=(inB v1 (A 10)∧M33 90 (.val (.ref (b+1))::.val (.int v1)::ls) (.int (getA (A 10) v1)::st) (put (b+1) e s A g) Q):=(w_x d0 rfl).trans ((w_get (dc (.getfield 40,3)) gf_40 put_o rfl).trans ((w_x d1 rfl).trans (w_ild d7 rfl put_a10)))
theorem m33_90:M33 90 ls (.int z::st) H Q=Q (some (.int z)) H:=w_iret d2 rfl
theorem m33_91:M33 91 (a::c::.val (.int v2)::ls) st H Q=if v2=4 then M33 96 (a::c::.val (.int v2)::ls) st H Q else M33 116 (a::c::.val (.int v2)::ls) st H Q:=(w_x d4 rfl).trans ((w_ki 4 d12 rfl).trans (w_icmpN (dc (.if_icmp .ne 23,3)) (i_ne v2 4) rfl))
theorem m33_96:M33 96 (.val (.ref (b+1))::.val (.int v1)::ls) st (put (b+1) e s A g) Q=(inB v1 (A 7)∧M33 102 (.val (.ref (b+1))::.val (.int v1)::ls) (.int (getA (A 7) v1)::st) (put (b+1) e s A g) Q):=(w_x d0 rfl).trans ((w_get d33 gf_31 put_o rfl).trans ((w_x d1 rfl).trans (w_ild d7 rfl put_a7)))
theorem m33_102:M33 102 ls (.int x::st) H Q=if x=0 then M33 105 ls st H Q else M33 109 ls st H Q:=w_ifN (dc (.ifCond .ne 7,3)) (z_ne x) rfl
theorem m33_105:M33 105 ls st H Q=M33 115 ls (.int 0::st) H Q:=(w_ki 0 d3 rfl).trans (w_x (dc (.goto 9,3)) rfl)
theorem m33_109:M33 109 (.val (.ref (b+1))::.val (.int v1)::ls) st (put (b+1) e s A g) Q=(inB v1 (A 11)∧M33 115 (.val (.ref (b+1))::.val (.int v1)::ls) (.int (getA (A 11) v1)::st) (put (b+1) e s A g) Q):=(w_x d0 rfl).trans ((w_get (dc (.getfield 43,3)) gf_43 put_o rfl).trans ((w_x d1 rfl).trans (w_ild d7 rfl put_a11)))
theorem m33_115:M33 115 ls (.int z::st) H Q=Q (some (.int z)) H:=w_iret d2 rfl
theorem m33_116:M33 116 ls st H Q=M33 117 ls (.int 0::st) H Q:=w_con d3 rfl (by decide)
theorem m33_117:M33 117 ls (.int z::st) H Q=Q (some (.int z)) H:=w_iret d2 rfl
theorem m34_0:M34 0 [.val (.ref (b+1)),.val (.int v1)] st H Q=M34 5 [.val (.ref (b+1)),.val (.int v1)] (.int 7::.int 0::.int v1::.ref (b+1)::st) H Q:=(w_x d0 rfl).trans ((w_x d1 rfl).trans ((w_ki 0 d3 rfl).trans (w_ki 7 d22 rfl)))
theorem cr34_126:vR tables_1 dn y34 126=some (true,y2,prog_1_method_64_code,4,(some .boolean),3,0):=cp ⟨[.int,.int,.int],some .boolean⟩ rc_2 dn_2 dn_34
theorem m34_5:M34 5 ls [.int a2,.int a1,.int a0,.ref (b+1)] (put (b+1) e s A g) Q=M2 0 [.val (.ref (b+1)),.val (.int a0),.val (.int a1),.val (.int a2)] [] (put (b+1) e s A g) (fun v H1 => M34 8 ls (v.toList ++ []) H1 Q):=wv [.int a2,.int a1,.int a0] [] d18 cr34_126 rfl rfl rfl rfl rfl
theorem m34_8:M34 8 ls (.int x::st) H Q=if x=0 then M34 18 ls st H Q else M34 11 ls st H Q:=w_if (dc (.ifCond .eq 10,3)) (z_eq x) rfl
theorem m34_11:M34 11 [.val (.ref (b+1)),.val (.int v1)] st (put (b+1) e s A g) Q=(inB v1 (A 0)∧M34 17 [.val (.ref (b+1)),.val (.int v1)] (.int (getA (A 0) v1)::st) (put (b+1) e s A g) Q):=(w_x d0 rfl).trans ((w_get d26 gf_7 put_o rfl).trans ((w_x d1 rfl).trans (w_ild d7 rfl put_a0)))
theorem m34_17:M34 17 ls (.int z::st) H Q=Q (some (.int z)) H:=w_iret d2 rfl
theorem m34_18:M34 18 [a,.val (.int v1)] st H Q=if v1=8 then M34 24 [a,.val (.int v1)] st H Q else M34 29 [a,.val (.int v1)] st H Q:=(w_x d1 rfl).trans ((w_ki 8 d19 rfl).trans (w_icmpN d30 (i_ne v1 8) rfl))
theorem m34_24:M34 24 (.val (.ref (b+1))::ls) st (put (b+1) e s A g) Q=M34 28 (.val (.ref (b+1))::ls) (.int (s 0)::st) (put (b+1) e s A g) Q:=(w_x d0 rfl).trans (w_get (dc (.getfield 134,3)) gf_134 put_o rfl)
theorem m34_28:M34 28 ls (.int z::st) H Q=Q (some (.int z)) H:=w_iret d2 rfl
theorem m34_29:M34 29 ls st H Q=M34 30 ls (.int 0::st) H Q:=w_con d3 rfl (by decide)
theorem m34_30:M34 30 ls (.int z::st) H Q=Q (some (.int z)) H:=w_iret d2 rfl
theorem m35_0:M35 0 [.val (.ref (b+1)),.val (.int v1)] st H Q=M35 4 [.val (.ref (b+1)),.val (.int v1)] (.int 3::.int 0::.int v1::.ref (b+1)::st) H Q:=(w_x d0 rfl).trans ((w_x d1 rfl).trans ((w_ki 0 d3 rfl).trans (w_ki 3 d15 rfl)))
theorem cr35_126:vR tables_1 dn y35 126=some (true,y2,prog_1_method_64_code,4,(some .boolean),3,0):=cp ⟨[.int,.int,.int],some .boolean⟩ rc_2 dn_2 dn_35
theorem m35_4:M35 4 ls [.int a2,.int a1,.int a0,.ref (b+1)] (put (b+1) e s A g) Q=M2 0 [.val (.ref (b+1)),.val (.int a0),.val (.int a1),.val (.int a2)] [] (put (b+1) e s A g) (fun v H1 => M35 7 ls (v.toList ++ []) H1 Q):=wv [.int a2,.int a1,.int a0] [] d18 cr35_126 rfl rfl rfl rfl rfl
theorem m35_7:M35 7 ls (.int x::st) H Q=if x=0 then M35 10 ls st H Q else M35 12 ls st H Q:=w_ifN d10 (z_ne x) rfl
theorem m35_10:M35 10 ls st H Q=M35 11 ls (.int 0::st) H Q:=w_con d3 rfl (by decide)
theorem m35_11:M35 11 ls (.int z::st) H Q=Q (some (.int (nar .boolean z))) H:=w_iretN d2 rfl (by simp)
theorem m35_12:M35 12 [.val (.ref (b+1)),.val (.int v1)] st (put (b+1) e s A g) Q=(inB v1 (A 7)∧M35 18 [.val (.ref (b+1)),.val (.int v1)] (.int (getA (A 7) v1)::st) (put (b+1) e s A g) Q):=(w_x d0 rfl).trans ((w_get d33 gf_31 put_o rfl).trans ((w_x d1 rfl).trans (w_ild d7 rfl put_a7)))
theorem m35_18:M35 18 ls st H Q=M35 19 ls (.int 2::st) H Q:=w_con d20 rfl (by decide)
theorem m35_19:M35 19 ls (.int y::.int x::st) H Q=if x=y then M35 24 ls st H Q else M35 22 ls st H Q:=w_icmp (dc (.if_icmp .eq 5,3)) (i_eq x y) rfl
theorem m35_22:M35 22 ls st H Q=M35 23 ls (.int 0::st) H Q:=w_con d3 rfl (by decide)
theorem m35_23:M35 23 ls (.int z::st) H Q=Q (some (.int (nar .boolean z))) H:=w_iretN d2 rfl (by simp)
theorem m35_24:M35 24 [.val (.ref (b+1)),.val (.int v1)] st (put (b+1) e s A g) Q=(inB v1 (A 7)∧M35 31 [.val (.ref (b+1)),.val (.int v1)] st (put (b+1) e s (ou A 7 (setA (A 7) v1 1)) g) Q):=(w_x d0 rfl).trans ((w_get d33 gf_31 put_o rfl).trans ((w_x d1 rfl).trans ((w_ki 1 d5 rfl).trans (w_ist d8 rfl put_a7 (by omega) rfl put_w7))))
theorem m35_31:M35 31 ls st H Q=M35 32 ls (.int 1::st) H Q:=w_con d5 rfl (by decide)
theorem m35_32:M35 32 ls (.int z::st) H Q=Q (some (.int (nar .boolean z))) H:=w_iretN d2 rfl (by simp)
theorem m36_0:M36 0 [.val (.ref (b+1))] st H Q=M36 2 [.val (.ref (b+1))] (.int 1::.ref (b+1)::st) H Q:=(w_x d0 rfl).trans (w_ki 1 d5 rfl)
theorem cr36_220:vR tables_1 dn y36 220=some (true,y16,prog_1_method_17_code,4,(some .boolean),1,0):=cp ⟨[.int],some .boolean⟩ rc_16 dn_16 dn_36
theorem m36_2:M36 2 ls [.int a0,.ref (b+1)] (put (b+1) e s A g) Q=M16 0 [.val (.ref (b+1)),.val (.int a0),.unset,.unset] [] (put (b+1) e s A g) (fun v H1 => M36 5 ls (v.toList ++ []) H1 Q):=wv [.int a0] [] (dc (.invokevirtual 220,3)) cr36_220 rfl rfl rfl rfl rfl
theorem m36_5:M36 5 ls (.int x::st) H Q=if x=0 then M36 8 ls st H Q else M36 10 ls st H Q:=w_ifN d10 (z_ne x) rfl
theorem m36_8:M36 8 ls st H Q=M36 9 ls (.int 0::st) H Q:=w_con d3 rfl (by decide)
theorem m36_9:M36 9 ls (.int z::st) H Q=Q (some (.int (nar .boolean z))) H:=w_iretN d2 rfl (by simp)
theorem m36_10:M36 10 [.val (.ref (b+1))] st (put (b+1) e s A g) Q=if 0 < (s 13) then M36 17 [.val (.ref (b+1))] st (put (b+1) e s A g) Q else M36 32 [.val (.ref (b+1))] st (put (b+1) e s A g) Q:=(w_x d0 rfl).trans ((w_get d28 gf_187 put_o rfl).trans (w_ifN (dc (.ifCond .le 18,3)) (z_le (s 13)) rfl))
theorem m36_17:M36 17 [.val (.ref (b+1))] st (put (b+1) e s A g) Q=(inB (((s 13) - 1)) (A 21)∧M36 28 [.val (.ref (b+1))] (.int (getA (A 21) (((s 13) - 1)))::st) (put (b+1) e s A g) Q):=(w_x d0 rfl).trans ((w_get (dc (.getfield 73,3)) gf_73 put_o rfl).trans ((w_x d0 rfl).trans ((w_get d28 gf_187 put_o rfl).trans ((w_ki 1 d5 rfl).trans ((w_x d21 rfl).trans (w_ild d7 rfl put_a21))))))
theorem m36_28:M36 28 ls st H Q=M36 29 ls (.int 2::st) H Q:=w_con d20 rfl (by decide)
theorem m36_29:M36 29 ls (.int y::.int x::st) H Q=if x=y then M36 34 ls st H Q else M36 32 ls st H Q:=w_icmp (dc (.if_icmp .eq 5,3)) (i_eq x y) rfl
theorem m36_32:M36 32 ls st H Q=M36 33 ls (.int 0::st) H Q:=w_con d3 rfl (by decide)
theorem m36_33:M36 33 ls (.int z::st) H Q=Q (some (.int (nar .boolean z))) H:=w_iretN d2 rfl (by simp)
theorem pf36_187:pfR tables_1 y36.cls y36.name 187=some ("AgentExprDbg", 43,.int):=by decide +kernel
theorem m36_34:M36 34 [.val (.ref (b+1))] st (put (b+1) e s A g) Q=M36 44 [.val (.ref (b+1))] st (put (b+1) e (ou s 13 (((s 13) - 1))) A g) Q:=(w_x d0 rfl).trans ((w_x d0 rfl).trans ((w_get d28 gf_187 put_o rfl).trans ((w_ki 1 d5 rfl).trans ((w_x d21 rfl).trans (w_put (dc (.putfield 187,3)) pf36_187 put_o (Nat.succ_le_succ (Nat.zero_le _)) (by show 43 < 60; omega) rfl put_s13)))))
theorem m36_44:M36 44 ls st H Q=M36 45 ls (.int 1::st) H Q:=w_con d5 rfl (by decide)
theorem m36_45:M36 45 ls (.int z::st) H Q=Q (some (.int (nar .boolean z))) H:=w_iretN d2 rfl (by simp)
theorem m37_0:M37 0 [.val (.ref (b+1))] st H Q=M37 2 [.val (.ref (b+1))] (.int 1::.ref (b+1)::st) H Q:=(w_x d0 rfl).trans (w_ki 1 d5 rfl)
theorem cr37_220:vR tables_1 dn y37 220=some (true,y16,prog_1_method_17_code,4,(some .boolean),1,0):=cp ⟨[.int],some .boolean⟩ rc_16 dn_16 dn_37
theorem m37_2:M37 2 ls [.int a0,.ref (b+1)] (put (b+1) e s A g) Q=M16 0 [.val (.ref (b+1)),.val (.int a0),.unset,.unset] [] (put (b+1) e s A g) (fun v H1 => M37 5 ls (v.toList ++ []) H1 Q):=wv [.int a0] [] (dc (.invokevirtual 220,3)) cr37_220 rfl rfl rfl rfl rfl
theorem m37_5:M37 5 ls (.int x::st) H Q=if x=0 then M37 8 ls st H Q else M37 10 ls st H Q:=w_ifN d10 (z_ne x) rfl
theorem m37_8:M37 8 ls st H Q=M37 9 ls (.int 0::st) H Q:=w_con d3 rfl (by decide)
theorem m37_9:M37 9 ls (.int z::st) H Q=Q (some (.int (nar .boolean z))) H:=w_iretN d2 rfl (by simp)
theorem m37_10:M37 10 [.val (.ref (b+1))] st (put (b+1) e s A g) Q=if (s 13)=0 then M37 19 [.val (.ref (b+1))] st (put (b+1) e s A g) Q else M37 17 [.val (.ref (b+1))] st (put (b+1) e s A g) Q:=(w_x d0 rfl).trans ((w_get d28 gf_187 put_o rfl).trans (w_if (dc (.ifCond .eq 5,3)) (z_eq (s 13)) rfl))
theorem m37_17:M37 17 ls st H Q=M37 18 ls (.int 0::st) H Q:=w_con d3 rfl (by decide)
theorem m37_18:M37 18 ls (.int z::st) H Q=Q (some (.int (nar .boolean z))) H:=w_iretN d2 rfl (by simp)
theorem m37_19:M37 19 [.val (.ref r)] st H Q=M37 20 [.val (.ref r)] (.ref r::st) H Q:=w_x d0 rfl
theorem cr37_229:vR tables_1 dn y37 229=some (true,y17,prog_1_method_21_code,2,(some .boolean),0,31):=cp ⟨[],some .boolean⟩ rc_17 dn_17 dn_37
theorem m37_20:M37 20 ls [.ref (b+1)] (put (b+1) e s A g) Q=M17 0 [.val (.ref (b+1)),.unset] [] (put (b+1) e s A g) (fun v H1 => M37 23 ls (v.toList ++ []) H1 Q):=wv [] [] (dc (.invokevirtual 229,3)) cr37_229 rfl rfl rfl rfl rfl
theorem m37_23:M37 23 ls (.int x::st) H Q=if x=0 then M37 26 ls st H Q else M37 28 ls st H Q:=w_ifN d10 (z_ne x) rfl
theorem m37_26:M37 26 ls st H Q=M37 27 ls (.int 0::st) H Q:=w_con d3 rfl (by decide)
theorem m37_27:M37 27 ls (.int z::st) H Q=Q (some (.int (nar .boolean z))) H:=w_iretN d2 rfl (by simp)
theorem pf37_168:pfR tables_1 y37.cls y37.name 168=some ("AgentExprDbg", 42,.boolean):=by decide +kernel
theorem m37_28:M37 28 [.val (.ref (b+1))] st (put (b+1) e s A g) Q=M37 33 [.val (.ref (b+1))] st (put (b+1) e (ou s 12 (nar .boolean 1)) A g) Q:=(w_x d0 rfl).trans ((w_ki 1 d5 rfl).trans (w_put (dc (.putfield 168,3)) pf37_168 put_o (Nat.succ_le_succ (Nat.zero_le _)) (by show 42 < 60; omega) rfl put_s12))
theorem m37_33:M37 33 ls st H Q=M37 34 ls (.int 1::st) H Q:=w_con d5 rfl (by decide)
theorem m37_34:M37 34 ls (.int z::st) H Q=Q (some (.int (nar .boolean z))) H:=w_iretN d2 rfl (by simp)
theorem m38_0:M38 0 [a,.val (.int v1)] st H Q=if v1=0 then M38 4 [a,.val (.int v1)] st H Q else M38 17 [a,.val (.int v1)] st H Q:=(w_x d1 rfl).trans (w_ifN (dc (.ifCond .ne 16,3)) (z_ne v1) rfl)
theorem m38_4:M38 4 (.val (.ref (b+1))::ls) st (put (b+1) e s A g) Q=if (s 1)=0 then M38 15 (.val (.ref (b+1))::ls) st (put (b+1) e s A g) Q else M38 11 (.val (.ref (b+1))::ls) st (put (b+1) e s A g) Q:=(w_x d0 rfl).trans ((w_get (dc (.getfield 137,3)) gf_137 put_o rfl).trans (w_if (dc (.ifCond .eq 7,3)) (z_eq (s 1)) rfl))
theorem m38_11:M38 11 ls st H Q=M38 16 ls (.int 1::st) H Q:=(w_ki 1 d5 rfl).trans (w_x d14 rfl)
theorem m38_15:M38 15 ls st H Q=M38 16 ls (.int 0::st) H Q:=w_con d3 rfl (by decide)
theorem m38_16:M38 16 ls (.int z::st) H Q=Q (some (.int z)) H:=w_iret d2 rfl
theorem m38_17:M38 17 [a,.val (.int v1)] st H Q=if v1=1 then M38 22 [a,.val (.int v1)] st H Q else M38 35 [a,.val (.int v1)] st H Q:=(w_x d1 rfl).trans ((w_ki 1 d5 rfl).trans (w_icmpN (dc (.if_icmp .ne 16,3)) (i_ne v1 1) rfl))
theorem m38_22:M38 22 (.val (.ref (b+1))::ls) st (put (b+1) e s A g) Q=if (s 2)=0 then M38 33 (.val (.ref (b+1))::ls) st (put (b+1) e s A g) Q else M38 29 (.val (.ref (b+1))::ls) st (put (b+1) e s A g) Q:=(w_x d0 rfl).trans ((w_get (dc (.getfield 141,3)) gf_141 put_o rfl).trans (w_if (dc (.ifCond .eq 7,3)) (z_eq (s 2)) rfl))
theorem m38_29:M38 29 ls st H Q=M38 34 ls (.int 1::st) H Q:=(w_ki 1 d5 rfl).trans (w_x d14 rfl)
theorem m38_33:M38 33 ls st H Q=M38 34 ls (.int 0::st) H Q:=w_con d3 rfl (by decide)
theorem m38_34:M38 34 ls (.int z::st) H Q=Q (some (.int z)) H:=w_iret d2 rfl
theorem m38_35:M38 35 [a,.val (.int v1)] st H Q=if v1=2 then M38 40 [a,.val (.int v1)] st H Q else M38 45 [a,.val (.int v1)] st H Q:=(w_x d1 rfl).trans ((w_ki 2 d20 rfl).trans (w_icmpN d30 (i_ne v1 2) rfl))
theorem m38_40:M38 40 (.val (.ref (b+1))::ls) st (put (b+1) e s A g) Q=M38 44 (.val (.ref (b+1))::ls) (.int (s 3)::st) (put (b+1) e s A g) Q:=(w_x d0 rfl).trans (w_get (dc (.getfield 235,3)) gf_235 put_o rfl)
theorem m38_44:M38 44 ls (.int z::st) H Q=Q (some (.int z)) H:=w_iret d2 rfl
theorem m38_45:M38 45 [a,.val (.int v1)] st H Q=if v1=3 then M38 50 [a,.val (.int v1)] st H Q else M38 55 [a,.val (.int v1)] st H Q:=(w_x d1 rfl).trans ((w_ki 3 d15 rfl).trans (w_icmpN d30 (i_ne v1 3) rfl))
theorem m38_50:M38 50 (.val (.ref (b+1))::ls) st (put (b+1) e s A g) Q=M38 54 (.val (.ref (b+1))::ls) (.int (s 4)::st) (put (b+1) e s A g) Q:=(w_x d0 rfl).trans (w_get (dc (.getfield 113,3)) gf_113 put_o rfl)
theorem m38_54:M38 54 ls (.int z::st) H Q=Q (some (.int z)) H:=w_iret d2 rfl
theorem m38_55:M38 55 [a,.val (.int v1)] st H Q=if v1=4 then M38 60 [a,.val (.int v1)] st H Q else M38 65 [a,.val (.int v1)] st H Q:=(w_x d1 rfl).trans ((w_ki 4 d12 rfl).trans (w_icmpN d30 (i_ne v1 4) rfl))
theorem m38_60:M38 60 (.val (.ref (b+1))::ls) st (put (b+1) e s A g) Q=M38 64 (.val (.ref (b+1))::ls) (.int (s 5)::st) (put (b+1) e s A g) Q:=(w_x d0 rfl).trans (w_get (dc (.getfield 116,3)) gf_116 put_o rfl)
theorem m38_64:M38 64 ls (.int z::st) H Q=Q (some (.int z)) H:=w_iret d2 rfl
theorem m38_65:M38 65 [a,.val (.int v1)] st H Q=if v1=5 then M38 70 [a,.val (.int v1)] st H Q else M38 75 [a,.val (.int v1)] st H Q:=(w_x d1 rfl).trans ((w_ki 5 (dc (.iconst 5,1)) rfl).trans (w_icmpN d30 (i_ne v1 5) rfl))
theorem m38_70:M38 70 (.val (.ref (b+1))::ls) st (put (b+1) e s A g) Q=M38 74 (.val (.ref (b+1))::ls) (.int (s 6)::st) (put (b+1) e s A g) Q:=(w_x d0 rfl).trans (w_get (dc (.getfield 119,3)) gf_119 put_o rfl)
theorem m38_74:M38 74 ls (.int z::st) H Q=Q (some (.int z)) H:=w_iret d2 rfl
theorem m38_75:M38 75 [.val (.ref (b+1)),.val (.int v1)] st H Q=M38 77 [.val (.ref (b+1)),.val (.int v1)] (.int v1::.ref (b+1)::st) H Q:=(w_x d0 rfl).trans (w_x d1 rfl)
theorem cr38_346:vR tables_1 dn y38 346=some (true,y39,prog_1_method_59_code,2,(some .int),1,0):=cp ⟨[.int],some .int⟩ rc_39 dn_39 dn_38
theorem m38_77:M38 77 ls [.int a0,.ref (b+1)] (put (b+1) e s A g) Q=M39 0 [.val (.ref (b+1)),.val (.int a0)] [] (put (b+1) e s A g) (fun v H1 => M38 80 ls (v.toList ++ []) H1 Q):=wv [.int a0] [] (dc (.invokevirtual 346,3)) cr38_346 rfl rfl rfl rfl rfl
theorem m38_80:M38 80 ls (.int z::st) H Q=Q (some (.int z)) H:=w_iret d2 rfl
theorem m39_0:M39 0 [a,.val (.int v1)] st H Q=if v1=6 then M39 6 [a,.val (.int v1)] st H Q else M39 11 [a,.val (.int v1)] st H Q:=(w_x d1 rfl).trans ((w_ki 6 (dc (.bipush 6,2)) rfl).trans (w_icmpN d30 (i_ne v1 6) rfl))
theorem m39_6:M39 6 (.val (.ref (b+1))::ls) st (put (b+1) e s A g) Q=M39 10 (.val (.ref (b+1))::ls) (.int (s 20)::st) (put (b+1) e s A g) Q:=(w_x d0 rfl).trans (w_get (dc (.getfield 287,3)) gf_287 put_o rfl)
theorem m39_10:M39 10 ls (.int z::st) H Q=Q (some (.int z)) H:=w_iret d2 rfl
theorem m39_11:M39 11 [a,.val (.int v1)] st H Q=if v1=7 then M39 17 [a,.val (.int v1)] st H Q else M39 22 [a,.val (.int v1)] st H Q:=(w_x d1 rfl).trans ((w_ki 7 d22 rfl).trans (w_icmpN d30 (i_ne v1 7) rfl))
theorem m39_17:M39 17 (.val (.ref (b+1))::ls) st (put (b+1) e s A g) Q=M39 21 (.val (.ref (b+1))::ls) (.int (s 21)::st) (put (b+1) e s A g) Q:=(w_x d0 rfl).trans (w_get (dc (.getfield 296,3)) gf_296 put_o rfl)
theorem m39_21:M39 21 ls (.int z::st) H Q=Q (some (.int z)) H:=w_iret d2 rfl
theorem m39_22:M39 22 [a,.val (.int v1)] st H Q=if v1=8 then M39 28 [a,.val (.int v1)] st H Q else M39 33 [a,.val (.int v1)] st H Q:=(w_x d1 rfl).trans ((w_ki 8 d19 rfl).trans (w_icmpN d30 (i_ne v1 8) rfl))
theorem m39_28:M39 28 (.val (.ref (b+1))::ls) st (put (b+1) e s A g) Q=M39 32 (.val (.ref (b+1))::ls) (.int (s 7)::st) (put (b+1) e s A g) Q:=(w_x d0 rfl).trans (w_get (dc (.getfield 144,3)) gf_144 put_o rfl)
theorem m39_32:M39 32 ls (.int z::st) H Q=Q (some (.int z)) H:=w_iret d2 rfl
theorem m39_33:M39 33 [a,.val (.int v1)] st H Q=if v1=9 then M39 39 [a,.val (.int v1)] st H Q else M39 44 [a,.val (.int v1)] st H Q:=(w_x d1 rfl).trans ((w_ki 9 (dc (.bipush 9,2)) rfl).trans (w_icmpN d30 (i_ne v1 9) rfl))
theorem m39_39:M39 39 (.val (.ref (b+1))::ls) st (put (b+1) e s A g) Q=M39 43 (.val (.ref (b+1))::ls) (.int (s 17)::st) (put (b+1) e s A g) Q:=(w_x d0 rfl).trans (w_get (dc (.getfield 106,3)) gf_106 put_o rfl)
theorem m39_43:M39 43 ls (.int z::st) H Q=Q (some (.int z)) H:=w_iret d2 rfl
theorem m39_44:M39 44 [a,.val (.int v1)] st H Q=if v1=10 then M39 50 [a,.val (.int v1)] st H Q else M39 55 [a,.val (.int v1)] st H Q:=(w_x d1 rfl).trans ((w_ki 10 (dc (.bipush 10,2)) rfl).trans (w_icmpN d30 (i_ne v1 10) rfl))
theorem m39_50:M39 50 (.val (.ref (b+1))::ls) st (put (b+1) e s A g) Q=M39 54 (.val (.ref (b+1))::ls) (.int (s 18)::st) (put (b+1) e s A g) Q:=(w_x d0 rfl).trans (w_get (dc (.getfield 110,3)) gf_110 put_o rfl)
theorem m39_54:M39 54 ls (.int z::st) H Q=Q (some (.int z)) H:=w_iret d2 rfl
theorem m39_55:M39 55 [a,.val (.int v1)] st H Q=if v1=11 then M39 61 [a,.val (.int v1)] st H Q else M39 66 [a,.val (.int v1)] st H Q:=(w_x d1 rfl).trans ((w_ki 11 (dc (.bipush 11,2)) rfl).trans (w_icmpN d30 (i_ne v1 11) rfl))
theorem m39_61:M39 61 (.val (.ref (b+1))::ls) st (put (b+1) e s A g) Q=M39 65 (.val (.ref (b+1))::ls) (.int (s 22)::st) (put (b+1) e s A g) Q:=(w_x d0 rfl).trans (w_get (dc (.getfield 269,3)) gf_269 put_o rfl)
theorem m39_65:M39 65 ls (.int z::st) H Q=Q (some (.int z)) H:=w_iret d2 rfl
theorem m39_66:M39 66 ls st H Q=M39 67 ls (.int 0::st) H Q:=w_con d3 rfl (by decide)
theorem m39_67:M39 67 ls (.int z::st) H Q=Q (some (.int z)) H:=w_iret d2 rfl
theorem m40_0:M40 0 (.val (.ref (b+1))::.val (.int v1)::.val (.int v2)::ls) st H Q=M40 3 (.val (.ref (b+1))::.val (.int v1)::.val (.int v2)::ls) (.int v2::.int v1::.ref (b+1)::st) H Q:=(w_x d0 rfl).trans ((w_x d1 rfl).trans (w_x d4 rfl))
theorem cr40_299:vR tables_1 dn y40 299=some (true,y41,prog_1_method_44_code,3,(some .boolean),2,64):=cp ⟨[.int,.int],some .boolean⟩ rc_41 dn_41 dn_40
theorem m40_3:M40 3 ls [.int a1,.int a0,.ref (b+1)] (put (b+1) e s A g) Q=M41 0 [.val (.ref (b+1)),.val (.int a0),.val (.int a1)] [] (put (b+1) e s A g) (fun v H1 => M40 6 ls (v.toList ++ []) H1 Q):=wv [.int a1,.int a0] [] (dc (.invokevirtual 299,3)) cr40_299 rfl rfl rfl rfl rfl
theorem m40_6:M40 6 ls (.int x::st) H Q=if x=0 then M40 9 ls st H Q else M40 16 ls st H Q:=w_ifN (dc (.ifCond .ne 10,3)) (z_ne x) rfl
theorem pf40_119:pfR tables_1 y40.cls y40.name 119=some ("AgentExprDbg", 36,.int):=by decide +kernel
theorem m40_9:M40 9 (.val (.ref (b+1))::ls) st (put (b+1) e s A g) Q=M40 14 (.val (.ref (b+1))::ls) st (put (b+1) e (ou s 6 3) A g) Q:=(w_x d0 rfl).trans ((w_ki 3 d15 rfl).trans (w_put (dc (.putfield 119,3)) pf40_119 put_o (Nat.succ_le_succ (Nat.zero_le _)) (by show 36 < 60; omega) rfl put_s6))
theorem m40_14:M40 14 ls st H Q=M40 15 ls (.int 0::st) H Q:=w_con d3 rfl (by decide)
theorem m40_15:M40 15 ls (.int z::st) H Q=Q (some (.int z)) H:=w_iret d2 rfl
theorem m40_16:M40 16 (.val (.ref (b+1))::.val (.int v1)::.val (.int v2)::ls) st H Q=M40 19 (.val (.ref (b+1))::.val (.int v1)::.val (.int v2)::ls) (.int v2::.int v1::.ref (b+1)::st) H Q:=(w_x d0 rfl).trans ((w_x d1 rfl).trans (w_x d4 rfl))
theorem cr40_256:vR tables_1 dn y40 256=some (true,y42,prog_1_method_45_code,7,(some .int),2,0):=cp ⟨[.int,.int],some .int⟩ rc_42 dn_42 dn_40
theorem m40_19:M40 19 ls [.int a1,.int a0,.ref (b+1)] (put (b+1) e s A g) Q=M42 0 [.val (.ref (b+1)),.val (.int a0),.val (.int a1),.unset,.unset,.unset,.unset] [] (put (b+1) e s A g) (fun v H1 => M40 22 ls (v.toList ++ []) H1 Q):=wv [.int a1,.int a0] [] (dc (.invokevirtual 256,3)) cr40_256 rfl rfl rfl rfl rfl
theorem m40_22u:M40 22 [a,c,d,.unset] ((.int v)::st) H Q=M40 23 [a,c,d,.val (.int v)] st H Q:=ws 3 d17 rfl rfl rfl rfl rfl rfl
theorem m40_23:M40 23 (.val (.ref (b+1))::ls) st (put (b+1) e s A g) Q=M40 31 (.val (.ref (b+1))::ls) st (put (b+1) e (ou s 6 (s 16)) A g) Q:=(w_x d0 rfl).trans ((w_x d0 rfl).trans ((w_get (dc (.getfield 259,3)) gf_259 put_o rfl).trans (w_put (dc (.putfield 119,3)) pf40_119 put_o (Nat.succ_le_succ (Nat.zero_le _)) (by show 36 < 60; omega) rfl put_s6)))
theorem m40_31:M40 31 (.val (.ref (b+1))::ls) st (put (b+1) e s A g) Q=if (s 16)=0 then M40 40 (.val (.ref (b+1))::ls) st (put (b+1) e s A g) Q else M40 38 (.val (.ref (b+1))::ls) st (put (b+1) e s A g) Q:=(w_x d0 rfl).trans ((w_get (dc (.getfield 259,3)) gf_259 put_o rfl).trans (w_if (dc (.ifCond .eq 5,3)) (z_eq (s 16)) rfl))
theorem m40_38:M40 38 ls st H Q=M40 39 ls (.int 0::st) H Q:=w_con d3 rfl (by decide)
theorem m40_39:M40 39 ls (.int z::st) H Q=Q (some (.int z)) H:=w_iret d2 rfl
theorem m40_40:M40 40 [a,c,d,.val (.int v)] st H Q=M40 41 [a,c,d,.val (.int v)] (.int v::st) H Q:=w_x d6 rfl
theorem m40_41:M40 41 ls (.int z::st) H Q=Q (some (.int z)) H:=w_iret d2 rfl
theorem m41_0:M41 0 (.val (.ref (b+1))::.val (.int v1)::ls) st H Q=M41 4 (.val (.ref (b+1))::.val (.int v1)::ls) (.int 3::.int 0::.int v1::.ref (b+1)::st) H Q:=(w_x d0 rfl).trans ((w_x d1 rfl).trans ((w_ki 0 d3 rfl).trans (w_ki 3 d15 rfl)))
theorem cr41_126:vR tables_1 dn y41 126=some (true,y2,prog_1_method_64_code,4,(some .boolean),3,0):=cp ⟨[.int,.int,.int],some .boolean⟩ rc_2 dn_2 dn_41
theorem m41_4:M41 4 ls [.int a2,.int a1,.int a0,.ref (b+1)] (put (b+1) e s A g) Q=M2 0 [.val (.ref (b+1)),.val (.int a0),.val (.int a1),.val (.int a2)] [] (put (b+1) e s A g) (fun v H1 => M41 7 ls (v.toList ++ []) H1 Q):=wv [.int a2,.int a1,.int a0] [] d18 cr41_126 rfl rfl rfl rfl rfl
theorem m41_7:M41 7 ls (.int x::st) H Q=if x=0 then M41 10 ls st H Q else M41 12 ls st H Q:=w_ifN d10 (z_ne x) rfl
theorem m41_10:M41 10 ls st H Q=M41 11 ls (.int 0::st) H Q:=w_con d3 rfl (by decide)
theorem m41_11:M41 11 ls (.int z::st) H Q=Q (some (.int (nar .boolean z))) H:=w_iretN d2 rfl (by simp)
theorem m41_12:M41 12 (.val (.ref (b+1))::.val (.int v1)::ls) st (put (b+1) e s A g) Q=(inB v1 (A 7)∧M41 18 (.val (.ref (b+1))::.val (.int v1)::ls) (.int (getA (A 7) v1)::st) (put (b+1) e s A g) Q):=(w_x d0 rfl).trans ((w_get d33 gf_31 put_o rfl).trans ((w_x d1 rfl).trans (w_ild d7 rfl put_a7)))
theorem m41_18:M41 18 ls (.int x::st) H Q=if x=0 then M41 21 ls st H Q else M41 23 ls st H Q:=w_ifN d10 (z_ne x) rfl
theorem m41_21:M41 21 ls st H Q=M41 22 ls (.int 0::st) H Q:=w_con d3 rfl (by decide)
theorem m41_22:M41 22 ls (.int z::st) H Q=Q (some (.int (nar .boolean z))) H:=w_iretN d2 rfl (by simp)
theorem m41_23:M41 23 [a,c,.val (.int v2)] st H Q=if v2 < 0 then M41 41 [a,c,.val (.int v2)] st H Q else M41 27 [a,c,.val (.int v2)] st H Q:=(w_x d4 rfl).trans (w_if (dc (.ifCond .lt 17,3)) (z_lt v2) rfl)
theorem m41_27:M41 27 [.val (.ref (b+1)),.val (.int v1),.val (.int v2)] st (put (b+1) e s A g) Q=(inB v1 (A 11)∧M41 34 [.val (.ref (b+1)),.val (.int v1),.val (.int v2)] (.int (getA (A 11) v1)::.int v2::st) (put (b+1) e s A g) Q):=(w_x d4 rfl).trans ((w_x d0 rfl).trans ((w_get (dc (.getfield 43,3)) gf_43 put_o rfl).trans ((w_x d1 rfl).trans (w_ild d7 rfl put_a11))))
theorem m41_34:M41 34 ls (.int y::.int x::st) H Q=if x < y then M41 37 ls st H Q else M41 41 ls st H Q:=w_icmpN (dc (.if_icmp .ge 7,3)) (i_ge x y) rfl
theorem m41_37:M41 37 ls st H Q=M41 42 ls (.int 1::st) H Q:=(w_ki 1 d5 rfl).trans (w_x d14 rfl)
theorem m41_41:M41 41 ls st H Q=M41 42 ls (.int 0::st) H Q:=w_con d3 rfl (by decide)
theorem m41_42:M41 42 ls (.int z::st) H Q=Q (some (.int (nar .boolean z))) H:=w_iretN d2 rfl (by simp)
theorem pf42_259:pfR tables_1 y42.cls y42.name 259=some ("AgentExprDbg", 50,.int):=by decide +kernel
theorem m42_0:M42 0 (.val (.ref (b+1))::ls) st (put (b+1) e s A g) Q=M42 5 (.val (.ref (b+1))::ls) st (put (b+1) e (ou s 16 0) A g) Q:=(w_x d0 rfl).trans ((w_ki 0 d3 rfl).trans (w_put (dc (.putfield 259,3)) pf42_259 put_o (Nat.succ_le_succ (Nat.zero_le _)) (by show 50 < 60; omega) rfl put_s16))
theorem pf42_302:pfR tables_1 y42.cls y42.name 302=some ("AgentExprDbg", 51,.int):=by decide +kernel
theorem m42_5:M42 5 (.val (.ref (b+1))::ls) st (put (b+1) e s A g) Q=M42 10 (.val (.ref (b+1))::ls) st (put (b+1) e (ou s 15 0) A g) Q:=(w_x d0 rfl).trans ((w_ki 0 d3 rfl).trans (w_put (dc (.putfield 302,3)) pf42_302 put_o (Nat.succ_le_succ (Nat.zero_le _)) (by show 51 < 60; omega) rfl put_s15))
theorem m42_10:M42 10 (.val (.ref (b+1))::.val (.int v1)::ls) st H Q=M42 14 (.val (.ref (b+1))::.val (.int v1)::ls) (.int 3::.int 0::.int v1::.ref (b+1)::st) H Q:=(w_x d0 rfl).trans ((w_x d1 rfl).trans ((w_ki 0 d3 rfl).trans (w_ki 3 d15 rfl)))
theorem cr42_126:vR tables_1 dn y42 126=some (true,y2,prog_1_method_64_code,4,(some .boolean),3,60):=cp ⟨[.int,.int,.int],some .boolean⟩ rc_2 dn_2 dn_42
theorem m42_14:M42 14 ls [.int a2,.int a1,.int a0,.ref (b+1)] (put (b+1) e s A g) Q=M2 0 [.val (.ref (b+1)),.val (.int a0),.val (.int a1),.val (.int a2)] [] (put (b+1) e s A g) (fun v H1 => M42 17 ls (v.toList ++ []) H1 Q):=wv [.int a2,.int a1,.int a0] [] d18 cr42_126 rfl rfl rfl rfl rfl
theorem m42_17:M42 17 ls (.int x::st) H Q=if x=0 then M42 30 ls st H Q else M42 20 ls st H Q:=w_if (dc (.ifCond .eq 13,3)) (z_eq x) rfl
theorem m42_20:M42 20 (.val (.ref (b+1))::c::.val (.int v2)::ls) st H Q=M42 24 (.val (.ref (b+1))::c::.val (.int v2)::ls) (.int 3::.int 0::.int v2::.ref (b+1)::st) H Q:=(w_x d0 rfl).trans ((w_x d4 rfl).trans ((w_ki 0 d3 rfl).trans (w_ki 3 d15 rfl)))
theorem m42_24:M42 24 ls [.int a2,.int a1,.int a0,.ref (b+1)] (put (b+1) e s A g) Q=M2 0 [.val (.ref (b+1)),.val (.int a0),.val (.int a1),.val (.int a2)] [] (put (b+1) e s A g) (fun v H1 => M42 27 ls (v.toList ++ []) H1 Q):=wv [.int a2,.int a1,.int a0] [] d18 cr42_126 rfl rfl rfl rfl rfl
theorem m42_27:M42 27 ls (.int x::st) H Q=if x=0 then M42 30 ls st H Q else M42 32 ls st H Q:=w_ifN d10 (z_ne x) rfl
theorem m42_30:M42 30 ls st H Q=M42 31 ls (.int 0::st) H Q:=w_con d3 rfl (by decide)
theorem m42_31:M42 31 ls (.int z::st) H Q=Q (some (.int z)) H:=w_iret d2 rfl
theorem m42_32:M42 32 (.val (.ref (b+1))::.val (.int v1)::.val (.int v2)::.unset::ls) st (put (b+1) e s A g) Q=(inB (((v1 * 4)+v2)) (A 15)∧M42 47 (.val (.ref (b+1))::.val (.int v1)::.val (.int v2)::.val (.int (v1 * 64))::ls) (.int (getA (A 15) (((v1 * 4)+v2)))::st) (put (b+1) e s A g) Q):=(w_x d1 rfl).trans ((w_ki 64 d31 rfl).trans ((w_x (dc (.imul,1)) rfl).trans ((ws 3 d17 rfl rfl rfl rfl rfl rfl).trans ((w_x d0 rfl).trans ((w_get (dc (.getfield 55,3)) gf_55 put_o rfl).trans ((w_x d1 rfl).trans ((w_ki 4 d12 rfl).trans ((w_x (dc (.imul,1)) rfl).trans ((w_x d4 rfl).trans ((w_x d9 rfl).trans (w_ild d7 rfl put_a15)))))))))))
theorem m42_47u:M42 47 (a::c::d::f::.unset::ls) ((.int v)::st) H Q=M42 49 (a::c::d::f::.val (.int v)::ls) st H Q:=ws 4 d23 rfl rfl rfl rfl rfl rfl
theorem m42_49:M42 49 (.val (.ref (b+1))::.val (.int v1)::.val (.int v2)::ls) st (put (b+1) e s A g) Q=(inB (((v1 * 4)+v2)) (A 16)∧M42 59 (.val (.ref (b+1))::.val (.int v1)::.val (.int v2)::ls) (.int (getA (A 16) (((v1 * 4)+v2)))::st) (put (b+1) e s A g) Q):=(w_x d0 rfl).trans ((w_get (dc (.getfield 58,3)) gf_58 put_o rfl).trans ((w_x d1 rfl).trans ((w_ki 4 d12 rfl).trans ((w_x (dc (.imul,1)) rfl).trans ((w_x d4 rfl).trans ((w_x d9 rfl).trans (w_ild d7 rfl put_a16)))))))
theorem m42_59u:M42 59 (a::c::d::f::k::.unset::ls) ((.int v)::st) H Q=M42 61 (a::c::d::f::k::.val (.int v)::ls) st H Q:=ws 5 (dc (.istore 5,2)) rfl rfl rfl rfl rfl rfl
theorem m42_61:M42 61 (a::c::d::f::k::.val (.int v5)::ls) st H Q=if 64 < v5 then M42 68 (a::c::d::f::k::.val (.int v5)::ls) st H Q else M42 72 (a::c::d::f::k::.val (.int v5)::ls) st H Q:=(w_x (dc (.iload 5,2)) rfl).trans ((w_ki 64 d31 rfl).trans (w_icmpN (dc (.if_icmp .le 7,3)) (i_le v5 64) rfl))
theorem m42_68:M42 68 (a::c::d::f::k::.val (.int z)::ls) st H Q=M42 72 (a::c::d::f::k::.val (.int 64)::ls) st H Q:=(w_ki 64 d31 rfl).trans (ws 5 (dc (.istore 5,2)) rfl rfl rfl rfl rfl rfl)
theorem m42_72:M42 72 [a,c,d,f,k,l,.unset] st H Q=M42 75 [a,c,d,f,k,l,.val (.int 0)] st H Q:=(w_ki 0 d3 rfl).trans (ws 6 (dc (.istore 6,2)) rfl rfl rfl rfl rfl rfl)
theorem m42_75:M42 75 [a,c,d,f,k,l,.val (.int v6)] st H Q=if v6 < 64 then M42 82 [a,c,d,f,k,l,.val (.int v6)] st H Q else M42 135 [a,c,d,f,k,l,.val (.int v6)] st H Q:=(w_x (dc (.iload 6,2)) rfl).trans ((w_ki 64 d31 rfl).trans (w_icmpN (dc (.if_icmp .ge 56,3)) (i_ge v6 64) rfl))
theorem m42_82:M42 82 (a::c::d::f::.val (.int v4)::ls) st H Q=if v4 < 0 then M42 135 (a::c::d::f::.val (.int v4)::ls) st H Q else M42 87 (a::c::d::f::.val (.int v4)::ls) st H Q:=(w_x d11 rfl).trans (w_if (dc (.ifCond .lt 51,3)) (z_lt v4) rfl)
theorem m42_87:M42 87 (a::c::d::f::.val (.int v4)::.val (.int v5)::ls) st H Q=if v4 < v5 then M42 94 (a::c::d::f::.val (.int v4)::.val (.int v5)::ls) st H Q else M42 135 (a::c::d::f::.val (.int v4)::.val (.int v5)::ls) st H Q:=(w_x d11 rfl).trans ((w_x (dc (.iload 5,2)) rfl).trans (w_icmpN (dc (.if_icmp .ge 44,3)) (i_ge v4 v5) rfl))
theorem m42_94:M42 94 (.val (.ref (b+1))::c::d::.val (.int v3)::.val (.int v4)::ls) st (put (b+1) e s A g) Q=(inB (v3+v4) (A 13)∧M42 104 (.val (.ref (b+1))::c::d::.val (.int v3)::.val (.int v4)::ls) (.int (getA (A 13) (v3+v4))::.ref (b+1)::st) (put (b+1) e s A g) Q):=(w_x d0 rfl).trans ((w_x d0 rfl).trans ((w_get (dc (.getfield 49,3)) gf_49 put_o rfl).trans ((w_x d6 rfl).trans ((w_x d11 rfl).trans ((w_x d9 rfl).trans (w_ild d7 rfl put_a13))))))
theorem m42_104:M42 104 (.val (.ref (b+1))::c::d::.val (.int v3)::.val (.int v4)::ls) st (put (b+1) e s A g) Q=(inB (v3+v4) (A 14)∧M42 113 (.val (.ref (b+1))::c::d::.val (.int v3)::.val (.int v4)::ls) (.int (getA (A 14) (v3+v4))::st) (put (b+1) e s A g) Q):=(w_x d0 rfl).trans ((w_get (dc (.getfield 52,3)) gf_52 put_o rfl).trans ((w_x d6 rfl).trans ((w_x d11 rfl).trans ((w_x d9 rfl).trans (w_ild d7 rfl put_a14)))))
theorem m42_113:M42 113 (a::c::d::f::.val (.int v)::ls) st H Q=M42 115 (a::c::d::f::.val (.int v)::ls) (.int v::st) H Q:=w_x d11 rfl
theorem cr42_305:vR tables_1 dn y42 305=some (true,y43,prog_1_method_46_code,5,(some .int),3,0):=cp ⟨[.int,.int,.int],some .int⟩ rc_43 dn_43 dn_42
theorem m42_115:M42 115 ls [.int a2,.int a1,.int a0,.ref (b+1)] (put (b+1) e s A g) Q=M43 0 [.val (.ref (b+1)),.val (.int a0),.val (.int a1),.val (.int a2),.unset] [] (put (b+1) e s A g) (fun v H1 => M42 118 ls (v.toList ++ []) H1 Q):=wv [.int a2,.int a1,.int a0] [] (dc (.invokevirtual 305,3)) cr42_305 rfl rfl rfl rfl rfl
theorem m42_118i:M42 118 (a::c::d::f::.val (.int z)::ls) ((.int v)::st) H Q=M42 120 (a::c::d::f::.val (.int v)::ls) st H Q:=ws 4 d23 rfl rfl rfl rfl rfl rfl
theorem m42_120:M42 120 (.val (.ref (b+1))::ls) st (put (b+1) e s A g) Q=if (s 16)=0 then M42 129 (.val (.ref (b+1))::ls) st (put (b+1) e s A g) Q else M42 127 (.val (.ref (b+1))::ls) st (put (b+1) e s A g) Q:=(w_x d0 rfl).trans ((w_get (dc (.getfield 259,3)) gf_259 put_o rfl).trans (w_if (dc (.ifCond .eq 5,3)) (z_eq (s 16)) rfl))
theorem m42_127:M42 127 ls st H Q=M42 128 ls (.int 0::st) H Q:=w_con d3 rfl (by decide)
theorem m42_128:M42 128 ls (.int z::st) H Q=Q (some (.int z)) H:=w_iret d2 rfl
theorem m42_129:M42 129 [a,c,d,f,k,l,.val (.int v6)] st H Q=M42 75 [a,c,d,f,k,l,.val (.int (v6+1))] st H Q:=(w_iinc (dc (.iinc 6 1,3)) rfl (by decide) rfl).trans (w_x (dc (.goto (-57),3)) rfl)
theorem m42_135:M42 135 (.val (.ref r)::ls) st H Q=M42 136 (.val (.ref r)::ls) (.ref r::st) H Q:=w_x d0 rfl
theorem cr42_309:vR tables_1 dn y42 309=some (true,y48,prog_1_method_56_code,1,(some .int),0,63):=cp ⟨[],some .int⟩ rc_48 dn_48 dn_42
theorem m42_136:M42 136 ls [.ref (b+1)] (put (b+1) e s A g) Q=M48 0 [.val (.ref (b+1))] [] (put (b+1) e s A g) (fun v H1 => M42 139 ls (v.toList ++ []) H1 Q):=wv [] [] (dc (.invokevirtual 309,3)) cr42_309 rfl rfl rfl rfl rfl
theorem m42_139:M42 139 ls (.int z::st) H Q=Q (some (.int z)) H:=w_iret d2 rfl
theorem m43_0:M43 0 (a::.val (.int v1)::ls) st H Q=if v1=0 then M43 4 (a::.val (.int v1)::ls) st H Q else M43 13 (a::.val (.int v1)::ls) st H Q:=(w_x d1 rfl).trans (w_ifN (dc (.ifCond .ne 12,3)) (z_ne v1) rfl)
theorem m43_4:M43 4 (.val (.ref (b+1))::c::.val (.int v2)::ls) st H Q=M43 6 (.val (.ref (b+1))::c::.val (.int v2)::ls) (.int v2::.ref (b+1)::st) H Q:=(w_x d0 rfl).trans (w_x d4 rfl)
theorem cr43_312:vR tables_1 dn y43 312=some (true,y44,prog_1_method_54_code,2,none,1,46):=cp ⟨[.int],none⟩ rc_44 dn_44 dn_43
theorem m43_6:M43 6 ls [.int a0,.ref (b+1)] (put (b+1) e s A g) Q=M44 0 [.val (.ref (b+1)),.val (.int a0)] [] (put (b+1) e s A g) (fun v H1 => M43 9 ls (v.toList ++ []) H1 Q):=wv [.int a0] [] (dc (.invokevirtual 312,3)) cr43_312 rfl rfl rfl rfl rfl
theorem m43_9:M43 9 (a::c::d::.val (.int v3)::ls) st H Q=M43 12 (a::c::d::.val (.int v3)::ls) (.int (v3+1)::st) H Q:=(w_x d6 rfl).trans ((w_ki 1 d5 rfl).trans (w_x d9 rfl))
theorem m43_12:M43 12 ls (.int z::st) H Q=Q (some (.int z)) H:=w_iret d2 rfl
theorem m43_13:M43 13 (a::.val (.int v1)::ls) st H Q=if v1=1 then M43 18 (a::.val (.int v1)::ls) st H Q else M43 35 (a::.val (.int v1)::ls) st H Q:=(w_x d1 rfl).trans ((w_ki 1 d5 rfl).trans (w_icmpN (dc (.if_icmp .ne 20,3)) (i_ne v1 1) rfl))
theorem m43_18:M43 18 (.val (.ref (b+1))::c::.val (.int v2)::ls) st (put (b+1) e s A g) Q=(inB (v2 &&& 7) (A 0)∧M43 28 (.val (.ref (b+1))::c::.val (.int v2)::ls) (.int (getA (A 0) (v2 &&& 7))::.ref (b+1)::st) (put (b+1) e s A g) Q):=(w_x d0 rfl).trans ((w_x d0 rfl).trans ((w_get d26 gf_7 put_o rfl).trans ((w_x d4 rfl).trans ((w_ki 7 d22 rfl).trans ((w_x (dc (.iand,1)) rfl).trans (w_ild d7 rfl put_a0))))))
theorem m43_28:M43 28 ls [.int a0,.ref (b+1)] (put (b+1) e s A g) Q=M44 0 [.val (.ref (b+1)),.val (.int a0)] [] (put (b+1) e s A g) (fun v H1 => M43 31 ls (v.toList ++ []) H1 Q):=wv [.int a0] [] (dc (.invokevirtual 312,3)) cr43_312 rfl rfl rfl rfl rfl
theorem m43_31:M43 31 (a::c::d::.val (.int v3)::ls) st H Q=M43 34 (a::c::d::.val (.int v3)::ls) (.int (v3+1)::st) H Q:=(w_x d6 rfl).trans ((w_ki 1 d5 rfl).trans (w_x d9 rfl))
theorem m43_34:M43 34 ls (.int z::st) H Q=Q (some (.int z)) H:=w_iret d2 rfl
theorem m43_35:M43 35 (a::.val (.int v1)::ls) st H Q=if v1=19 then M43 47 (a::.val (.int v1)::ls) st H Q else M43 41 (a::.val (.int v1)::ls) st H Q:=(w_x d1 rfl).trans ((w_ki 19 (dc (.bipush 19,2)) rfl).trans (w_icmp d36 (i_eq v1 19) rfl))
theorem m43_41:M43 41 (a::.val (.int v1)::ls) st H Q=if v1=20 then M43 47 (a::.val (.int v1)::ls) st H Q else M43 55 (a::.val (.int v1)::ls) st H Q:=(w_x d1 rfl).trans ((w_ki 20 (dc (.bipush 20,2)) rfl).trans (w_icmpN (dc (.if_icmp .ne 11,3)) (i_ne v1 20) rfl))
theorem m43_47:M43 47 (.val (.ref (b+1))::.val (.int v1)::.val (.int v2)::.val (.int v3)::ls) st H Q=M43 51 (.val (.ref (b+1))::.val (.int v1)::.val (.int v2)::.val (.int v3)::ls) (.int v3::.int v2::.int v1::.ref (b+1)::st) H Q:=(w_x d0 rfl).trans ((w_x d1 rfl).trans ((w_x d4 rfl).trans (w_x d6 rfl)))
theorem cr43_315:vR tables_1 dn y43 315=some (true,y57,prog_1_method_47_code,5,(some .int),3,30):=cp ⟨[.int,.int,.int],some .int⟩ rc_57 dn_57 dn_43
theorem m43_51:M43 51 ls [.int a2,.int a1,.int a0,.ref (b+1)] (put (b+1) e s A g) Q=M57 0 [.val (.ref (b+1)),.val (.int a0),.val (.int a1),.val (.int a2),.unset] [] (put (b+1) e s A g) (fun v H1 => M43 54 ls (v.toList ++ []) H1 Q):=wv [.int a2,.int a1,.int a0] [] (dc (.invokevirtual 315,3)) cr43_315 rfl rfl rfl rfl rfl
theorem m43_54:M43 54 ls (.int z::st) H Q=Q (some (.int z)) H:=w_iret d2 rfl
theorem m43_55:M43 55 (a::.val (.int v1)::ls) st H Q=if v1=21 then M43 61 (a::.val (.int v1)::ls) st H Q else M43 85 (a::.val (.int v1)::ls) st H Q:=(w_x d1 rfl).trans ((w_ki 21 (dc (.bipush 21,2)) rfl).trans (w_icmpN (dc (.if_icmp .ne 27,3)) (i_ne v1 21) rfl))
theorem m43_61:M43 61 (.val (.ref r)::ls) st H Q=M43 62 (.val (.ref r)::ls) (.ref r::st) H Q:=w_x d0 rfl
theorem cr43_309:vR tables_1 dn y43 309=some (true,y48,prog_1_method_56_code,1,(some .int),0,47):=cp ⟨[],some .int⟩ rc_48 dn_48 dn_43
theorem m43_62:M43 62 ls [.ref (b+1)] (put (b+1) e s A g) Q=M48 0 [.val (.ref (b+1))] [] (put (b+1) e s A g) (fun v H1 => M43 65 ls (v.toList ++ []) H1 Q):=wv [] [] (dc (.invokevirtual 309,3)) cr43_309 rfl rfl rfl rfl rfl
theorem m43_65u:M43 65 [a,c,d,f,.unset] ((.int v)::st) H Q=M43 67 [a,c,d,f,.val (.int v)] st H Q:=ws 4 d23 rfl rfl rfl rfl rfl rfl
theorem m43_67:M43 67 [.val (.ref (b+1)),c,d,f,.val (.int v4)] st H Q=if v4=0 then M43 77 [.val (.ref (b+1)),c,d,f,.val (.int v4)] (.ref (b+1)::st) H Q else M43 73 [.val (.ref (b+1)),c,d,f,.val (.int v4)] (.ref (b+1)::st) H Q:=(w_x d0 rfl).trans ((w_x d11 rfl).trans (w_if (dc (.ifCond .eq 7,3)) (z_eq v4) rfl))
theorem m43_73:M43 73 ls st H Q=M43 78 ls (.int 1::st) H Q:=(w_ki 1 d5 rfl).trans (w_x d14 rfl)
theorem m43_77:M43 77 ls st H Q=M43 78 ls (.int 0::st) H Q:=w_con d3 rfl (by decide)
theorem cr43_318:vR tables_1 dn y43 318=some (true,y60,prog_1_method_57_code,2,none,1,46):=cp ⟨[.int],none⟩ rc_60 dn_60 dn_43
theorem m43_78:M43 78 ls [.int a0,.ref (b+1)] (put (b+1) e s A g) Q=M60 0 [.val (.ref (b+1)),.val (.int a0)] [] (put (b+1) e s A g) (fun v H1 => M43 81 ls (v.toList ++ []) H1 Q):=wv [.int a0] [] (dc (.invokevirtual 318,3)) cr43_318 rfl rfl rfl rfl rfl
theorem m43_81:M43 81 (a::c::d::.val (.int v3)::ls) st H Q=M43 84 (a::c::d::.val (.int v3)::ls) (.int (v3+1)::st) H Q:=(w_x d6 rfl).trans ((w_ki 1 d5 rfl).trans (w_x d9 rfl))
theorem m43_84:M43 84 ls (.int z::st) H Q=Q (some (.int z)) H:=w_iret d2 rfl
theorem m43_85:M43 85 (.val (.ref (b+1))::.val (.int v1)::ls) st H Q=M43 87 (.val (.ref (b+1))::.val (.int v1)::ls) (.int v1::.ref (b+1)::st) H Q:=(w_x d0 rfl).trans (w_x d1 rfl)
theorem cr43_199:vR tables_1 dn y43 199=some (true,y24,prog_1_method_28_code,2,(some .boolean),1,46):=cp ⟨[.int],some .boolean⟩ rc_24 dn_24 dn_43
theorem m43_87:M43 87 ls [.int a0,.ref (b+1)] (put (b+1) e s A g) Q=M24 0 [.val (.ref (b+1)),.val (.int a0)] [] (put (b+1) e s A g) (fun v H1 => M43 90 ls (v.toList ++ []) H1 Q):=wv [.int a0] [] (dc (.invokevirtual 199,3)) cr43_199 rfl rfl rfl rfl rfl
theorem m43_90:M43 90 ls (.int x::st) H Q=if x=0 then M43 102 ls st H Q else M43 93 ls st H Q:=w_if d35 (z_eq x) rfl
theorem m43_93:M43 93 (.val (.ref (b+1))::.val (.int v1)::ls) st H Q=M43 95 (.val (.ref (b+1))::.val (.int v1)::ls) (.int v1::.ref (b+1)::st) H Q:=(w_x d0 rfl).trans (w_x d1 rfl)
theorem cr43_321:vR tables_1 dn y43 321=some (true,y58,prog_1_method_48_code,4,none,1,15):=cp ⟨[.int],none⟩ rc_58 dn_58 dn_43
theorem m43_95:M43 95 ls [.int a0,.ref (b+1)] (put (b+1) e s A g) Q=M58 0 [.val (.ref (b+1)),.val (.int a0),.unset,.unset] [] (put (b+1) e s A g) (fun v H1 => M43 98 ls (v.toList ++ []) H1 Q):=wv [.int a0] [] (dc (.invokevirtual 321,3)) cr43_321 rfl rfl rfl rfl rfl
theorem m43_98:M43 98 (a::c::d::.val (.int v3)::ls) st H Q=M43 101 (a::c::d::.val (.int v3)::ls) (.int (v3+1)::st) H Q:=(w_x d6 rfl).trans ((w_ki 1 d5 rfl).trans (w_x d9 rfl))
theorem m43_101:M43 101 ls (.int z::st) H Q=Q (some (.int z)) H:=w_iret d2 rfl
theorem m43_102:M43 102 (.val (.ref (b+1))::.val (.int v1)::ls) st H Q=M43 104 (.val (.ref (b+1))::.val (.int v1)::ls) (.int v1::.ref (b+1)::st) H Q:=(w_x d0 rfl).trans (w_x d1 rfl)
theorem cr43_324:vR tables_1 dn y43 324=some (true,y45,prog_1_method_49_code,5,none,1,0):=cp ⟨[.int],none⟩ rc_45 dn_45 dn_43
theorem m43_104:M43 104 ls [.int a0,.ref (b+1)] (put (b+1) e s A g) Q=M45 0 [.val (.ref (b+1)),.val (.int a0),.unset,.unset,.unset] [] (put (b+1) e s A g) (fun v H1 => M43 107 ls (v.toList ++ []) H1 Q):=wv [.int a0] [] (dc (.invokevirtual 324,3)) cr43_324 rfl rfl rfl rfl rfl
theorem m43_107:M43 107 (a::c::d::.val (.int v3)::ls) st H Q=M43 110 (a::c::d::.val (.int v3)::ls) (.int (v3+1)::st) H Q:=(w_x d6 rfl).trans ((w_ki 1 d5 rfl).trans (w_x d9 rfl))
theorem m43_110:M43 110 ls (.int z::st) H Q=Q (some (.int z)) H:=w_iret d2 rfl
theorem m44_0:M44 0 (.val (.ref (b+1))::ls) st (put (b+1) e s A g) Q=if (s 15) < 0 then M44 36 (.val (.ref (b+1))::ls) st (put (b+1) e s A g) Q else M44 7 (.val (.ref (b+1))::ls) st (put (b+1) e s A g) Q:=(w_x d0 rfl).trans ((w_get d29 gf_302 put_o rfl).trans (w_if (dc (.ifCond .lt 32,3)) (z_lt (s 15)) rfl))
theorem m44_7:M44 7 (.val (.ref (b+1))::ls) st (put (b+1) e s A g) Q=if (s 15) < 40 then M44 16 (.val (.ref (b+1))::ls) st (put (b+1) e s A g) Q else M44 36 (.val (.ref (b+1))::ls) st (put (b+1) e s A g) Q:=(w_x d0 rfl).trans ((w_get d29 gf_302 put_o rfl).trans ((w_ki 40 (dc (.bipush 40,2)) rfl).trans (w_icmpN (dc (.if_icmp .ge 23,3)) (i_ge (s 15) 40) rfl)))
theorem m44_16:M44 16 [.val (.ref (b+1)),.val (.int v1)] st (put (b+1) e s A g) Q=(inB (s 15) (A 24)∧M44 26 [.val (.ref (b+1)),.val (.int v1)] st (put (b+1) e s (ou A 24 (setA (A 24) (s 15) v1)) g) Q):=(w_x d0 rfl).trans ((w_get (dc (.getfield 82,3)) gf_82 put_o rfl).trans ((w_x d0 rfl).trans ((w_get d29 gf_302 put_o rfl).trans ((w_x d1 rfl).trans (w_ist d8 rfl put_a24 (by omega) rfl put_w24)))))
theorem pf44_302:pfR tables_1 y44.cls y44.name 302=some ("AgentExprDbg", 51,.int):=by decide +kernel
theorem m44_26:M44 26 (.val (.ref (b+1))::ls) st (put (b+1) e s A g) Q=M44 36 (.val (.ref (b+1))::ls) st (put (b+1) e (ou s 15 (((s 15)+1))) A g) Q:=(w_x d0 rfl).trans ((w_x d0 rfl).trans ((w_get d29 gf_302 put_o rfl).trans ((w_ki 1 d5 rfl).trans ((w_x d9 rfl).trans (w_put (dc (.putfield 302,3)) pf44_302 put_o (Nat.succ_le_succ (Nat.zero_le _)) (by show 51 < 60; omega) rfl put_s15)))))
theorem m44_36:M44 36 ls [] H Q=Q none H:=w_vret d24 rfl
theorem m45_0:M45 0 (.val (.ref r)::ls) st H Q=M45 1 (.val (.ref r)::ls) (.ref r::st) H Q:=w_x d0 rfl
theorem cr45_327:vR tables_1 dn y45 327=some (true,y46,prog_1_method_55_code,1,(some .int),0,31):=cp ⟨[],some .int⟩ rc_46 dn_46 dn_45
theorem m45_1:M45 1 ls [.ref (b+1)] (put (b+1) e s A g) Q=M46 0 [.val (.ref (b+1))] [] (put (b+1) e s A g) (fun v H1 => M45 4 ls (v.toList ++ []) H1 Q):=wv [] [] (dc (.invokevirtual 327,3)) cr45_327 rfl rfl rfl rfl rfl
theorem m45_4u:M45 4 (a::c::.unset::ls) ((.int v)::st) H Q=M45 5 (a::c::.val (.int v)::ls) st H Q:=ws 2 d25 rfl rfl rfl rfl rfl rfl
theorem m45_5:M45 5 (.val (.ref r)::ls) st H Q=M45 6 (.val (.ref r)::ls) (.ref r::st) H Q:=w_x d0 rfl
theorem m45_6:M45 6 ls [.ref (b+1)] (put (b+1) e s A g) Q=M46 0 [.val (.ref (b+1))] [] (put (b+1) e s A g) (fun v H1 => M45 9 ls (v.toList ++ []) H1 Q):=wv [] [] (dc (.invokevirtual 327,3)) cr45_327 rfl rfl rfl rfl rfl
theorem m45_9u:M45 9 (a::c::d::.unset::ls) ((.int v)::st) H Q=M45 10 (a::c::d::.val (.int v)::ls) st H Q:=ws 3 d17 rfl rfl rfl rfl rfl rfl
theorem m45_10:M45 10 (.val (.ref (b+1))::.val (.int v1)::.val (.int v2)::.val (.int v3)::ls) st H Q=M45 14 (.val (.ref (b+1))::.val (.int v1)::.val (.int v2)::.val (.int v3)::ls) (.int v2::.int v3::.int v1::.ref (b+1)::st) H Q:=(w_x d0 rfl).trans ((w_x d1 rfl).trans ((w_x d6 rfl).trans (w_x d4 rfl)))
theorem cr45_333:vR tables_1 dn y45 333=some (true,y47,prog_1_method_51_code,4,(some .int),3,0):=cp ⟨[.int,.int,.int],some .int⟩ rc_47 dn_47 dn_45
theorem m45_14:M45 14 ls [.int a2,.int a1,.int a0,.ref (b+1)] (put (b+1) e s A g) Q=M47 0 [.val (.ref (b+1)),.val (.int a0),.val (.int a1),.val (.int a2)] [] (put (b+1) e s A g) (fun v H1 => M45 17 ls (v.toList ++ []) H1 Q):=wv [.int a2,.int a1,.int a0] [] (dc (.invokevirtual 333,3)) cr45_333 rfl rfl rfl rfl rfl
theorem m45_17u:M45 17 [a,c,d,f,.unset] ((.int v)::st) H Q=M45 19 [a,c,d,f,.val (.int v)] st H Q:=ws 4 d23 rfl rfl rfl rfl rfl rfl
theorem m45_19:M45 19 [.val (.ref (b+1)),c,d,f,.val (.int v4)] st H Q=M45 22 [.val (.ref (b+1)),c,d,f,.val (.int v4)] (.int v4::.ref (b+1)::st) H Q:=(w_x d0 rfl).trans (w_x d11 rfl)
theorem cr45_312:vR tables_1 dn y45 312=some (true,y44,prog_1_method_54_code,2,none,1,30):=cp ⟨[.int],none⟩ rc_44 dn_44 dn_45
theorem m45_22:M45 22 ls [.int a0,.ref (b+1)] (put (b+1) e s A g) Q=M44 0 [.val (.ref (b+1)),.val (.int a0)] [] (put (b+1) e s A g) (fun v H1 => M45 25 ls (v.toList ++ []) H1 Q):=wv [.int a0] [] (dc (.invokevirtual 312,3)) cr45_312 rfl rfl rfl rfl rfl
theorem m45_25:M45 25 ls [] H Q=Q none H:=w_vret d24 rfl
theorem m46_0:M46 0 [.val (.ref (b+1))] st (put (b+1) e s A g) Q=if 0 < (s 15) then M46 7 [.val (.ref (b+1))] st (put (b+1) e s A g) Q else M46 36 [.val (.ref (b+1))] st (put (b+1) e s A g) Q:=(w_x d0 rfl).trans ((w_get d29 gf_302 put_o rfl).trans (w_ifN (dc (.ifCond .le 32,3)) (z_le (s 15)) rfl))
theorem m46_7:M46 7 [.val (.ref (b+1))] st (put (b+1) e s A g) Q=if 40 < (s 15) then M46 36 [.val (.ref (b+1))] st (put (b+1) e s A g) Q else M46 16 [.val (.ref (b+1))] st (put (b+1) e s A g) Q:=(w_x d0 rfl).trans ((w_get d29 gf_302 put_o rfl).trans ((w_ki 40 (dc (.bipush 40,2)) rfl).trans (w_icmp (dc (.if_icmp .gt 23,3)) (i_gt (s 15) 40) rfl)))
theorem pf46_302:pfR tables_1 y46.cls y46.name 302=some ("AgentExprDbg", 51,.int):=by decide +kernel
theorem m46_16:M46 16 [.val (.ref (b+1))] st (put (b+1) e s A g) Q=M46 26 [.val (.ref (b+1))] st (put (b+1) e (ou s 15 (((s 15) - 1))) A g) Q:=(w_x d0 rfl).trans ((w_x d0 rfl).trans ((w_get d29 gf_302 put_o rfl).trans ((w_ki 1 d5 rfl).trans ((w_x d21 rfl).trans (w_put (dc (.putfield 302,3)) pf46_302 put_o (Nat.succ_le_succ (Nat.zero_le _)) (by show 51 < 60; omega) rfl put_s15)))))
theorem m46_26:M46 26 [.val (.ref (b+1))] st (put (b+1) e s A g) Q=(inB (s 15) (A 24)∧M46 35 [.val (.ref (b+1))] (.int (getA (A 24) (s 15))::st) (put (b+1) e s A g) Q):=(w_x d0 rfl).trans ((w_get (dc (.getfield 82,3)) gf_82 put_o rfl).trans ((w_x d0 rfl).trans ((w_get d29 gf_302 put_o rfl).trans (w_ild d7 rfl put_a24))))
theorem m46_35:M46 35 ls (.int z::st) H Q=Q (some (.int z)) H:=w_iret d2 rfl
theorem m46_36:M46 36 ls st H Q=M46 37 ls (.int 0::st) H Q:=w_con d3 rfl (by decide)
theorem m46_37:M46 37 ls (.int z::st) H Q=Q (some (.int z)) H:=w_iret d2 rfl
theorem m47_0:M47 0 (a::.val (.int v1)::ls) st H Q=if v1=8 then M47 6 (a::.val (.int v1)::ls) st H Q else M47 10 (a::.val (.int v1)::ls) st H Q:=(w_x d1 rfl).trans ((w_ki 8 d19 rfl).trans (w_icmpN (dc (.if_icmp .ne 7,3)) (i_ne v1 8) rfl))
theorem m47_6:M47 6 [a,c,.val (.int v2),.val (.int v3)] st H Q=M47 9 [a,c,.val (.int v2),.val (.int v3)] (.int (v2 * v3)::st) H Q:=(w_x d4 rfl).trans ((w_x d6 rfl).trans (w_x (dc (.imul,1)) rfl))
theorem m47_9:M47 9 ls (.int z::st) H Q=Q (some (.int z)) H:=w_iret d2 rfl
theorem m47_10:M47 10 (a::.val (.int v1)::ls) st H Q=if v1=11 then M47 16 (a::.val (.int v1)::ls) st H Q else M47 20 (a::.val (.int v1)::ls) st H Q:=(w_x d1 rfl).trans ((w_ki 11 (dc (.bipush 11,2)) rfl).trans (w_icmpN (dc (.if_icmp .ne 7,3)) (i_ne v1 11) rfl))
theorem m47_16:M47 16 [a,c,.val (.int v2),.val (.int v3)] st H Q=M47 19 [a,c,.val (.int v2),.val (.int v3)] (.int (v2+v3)::st) H Q:=(w_x d4 rfl).trans ((w_x d6 rfl).trans (w_x d9 rfl))
theorem m47_19:M47 19 ls (.int z::st) H Q=Q (some (.int z)) H:=w_iret d2 rfl
theorem m47_20:M47 20 (a::.val (.int v1)::ls) st H Q=if v1=12 then M47 26 (a::.val (.int v1)::ls) st H Q else M47 30 (a::.val (.int v1)::ls) st H Q:=(w_x d1 rfl).trans ((w_ki 12 (dc (.bipush 12,2)) rfl).trans (w_icmpN (dc (.if_icmp .ne 7,3)) (i_ne v1 12) rfl))
theorem m47_26:M47 26 [a,c,.val (.int v2),.val (.int v3)] st H Q=M47 29 [a,c,.val (.int v2),.val (.int v3)] (.int (v2 - v3)::st) H Q:=(w_x d4 rfl).trans ((w_x d6 rfl).trans (w_x d21 rfl))
theorem m47_29:M47 29 ls (.int z::st) H Q=Q (some (.int z)) H:=w_iret d2 rfl
theorem m47_30:M47 30 (a::.val (.int v1)::ls) st H Q=if v1=9 then M47 42 (a::.val (.int v1)::ls) st H Q else M47 36 (a::.val (.int v1)::ls) st H Q:=(w_x d1 rfl).trans ((w_ki 9 (dc (.bipush 9,2)) rfl).trans (w_icmp d36 (i_eq v1 9) rfl))
theorem m47_36:M47 36 (a::.val (.int v1)::ls) st H Q=if v1=10 then M47 42 (a::.val (.int v1)::ls) st H Q else M47 50 (a::.val (.int v1)::ls) st H Q:=(w_x d1 rfl).trans ((w_ki 10 (dc (.bipush 10,2)) rfl).trans (w_icmpN (dc (.if_icmp .ne 11,3)) (i_ne v1 10) rfl))
theorem m47_42:M47 42 [.val (.ref (b+1)),.val (.int v1),.val (.int v2),.val (.int v3)] st H Q=M47 46 [.val (.ref (b+1)),.val (.int v1),.val (.int v2),.val (.int v3)] (.int v3::.int v2::.int v1::.ref (b+1)::st) H Q:=(w_x d0 rfl).trans ((w_x d1 rfl).trans ((w_x d4 rfl).trans (w_x d6 rfl)))
theorem cr47_336:vR tables_1 dn y47 336=some (true,y64,prog_1_method_52_code,4,(some .int),3,13):=cp ⟨[.int,.int,.int],some .int⟩ rc_64 dn_64 dn_47
theorem m47_46:M47 46 ls [.int a2,.int a1,.int a0,.ref (b+1)] (put (b+1) e s A g) Q=M64 0 [.val (.ref (b+1)),.val (.int a0),.val (.int a1),.val (.int a2)] [] (put (b+1) e s A g) (fun v H1 => M47 49 ls (v.toList ++ []) H1 Q):=wv [.int a2,.int a1,.int a0] [] (dc (.invokevirtual 336,3)) cr47_336 rfl rfl rfl rfl rfl
theorem m47_49:M47 49 ls (.int z::st) H Q=Q (some (.int z)) H:=w_iret d2 rfl
theorem m47_50:M47 50 [.val (.ref (b+1)),.val (.int v1),.val (.int v2),.val (.int v3)] st H Q=M47 54 [.val (.ref (b+1)),.val (.int v1),.val (.int v2),.val (.int v3)] (.int v3::.int v2::.int v1::.ref (b+1)::st) H Q:=(w_x d0 rfl).trans ((w_x d1 rfl).trans ((w_x d4 rfl).trans (w_x d6 rfl)))
theorem cr47_339:vR tables_1 dn y47 339=some (true,y61,prog_1_method_53_code,4,(some .int),3,0):=cp ⟨[.int,.int,.int],some .int⟩ rc_61 dn_61 dn_47
theorem m47_54:M47 54 ls [.int a2,.int a1,.int a0,.ref (b+1)] (put (b+1) e s A g) Q=M61 0 [.val (.ref (b+1)),.val (.int a0),.val (.int a1),.val (.int a2)] [] (put (b+1) e s A g) (fun v H1 => M47 57 ls (v.toList ++ []) H1 Q):=wv [.int a2,.int a1,.int a0] [] (dc (.invokevirtual 339,3)) cr47_339 rfl rfl rfl rfl rfl
theorem m47_57:M47 57 ls (.int z::st) H Q=Q (some (.int z)) H:=w_iret d2 rfl
theorem m48_0:M48 0 [.val (.ref (b+1))] st (put (b+1) e s A g) Q=if 0 < (s 15) then M48 7 [.val (.ref (b+1))] st (put (b+1) e s A g) Q else M48 28 [.val (.ref (b+1))] st (put (b+1) e s A g) Q:=(w_x d0 rfl).trans ((w_get d29 gf_302 put_o rfl).trans (w_ifN (dc (.ifCond .le 24,3)) (z_le (s 15)) rfl))
theorem m48_7:M48 7 [.val (.ref (b+1))] st (put (b+1) e s A g) Q=if 40 < (s 15) then M48 28 [.val (.ref (b+1))] st (put (b+1) e s A g) Q else M48 16 [.val (.ref (b+1))] st (put (b+1) e s A g) Q:=(w_x d0 rfl).trans ((w_get d29 gf_302 put_o rfl).trans ((w_ki 40 (dc (.bipush 40,2)) rfl).trans (w_icmp (dc (.if_icmp .gt 15,3)) (i_gt (s 15) 40) rfl)))
theorem m48_16:M48 16 [.val (.ref (b+1))] st (put (b+1) e s A g) Q=(inB (((s 15) - 1)) (A 24)∧M48 27 [.val (.ref (b+1))] (.int (getA (A 24) (((s 15) - 1)))::st) (put (b+1) e s A g) Q):=(w_x d0 rfl).trans ((w_get (dc (.getfield 82,3)) gf_82 put_o rfl).trans ((w_x d0 rfl).trans ((w_get d29 gf_302 put_o rfl).trans ((w_ki 1 d5 rfl).trans ((w_x d21 rfl).trans (w_ild d7 rfl put_a24))))))
theorem m48_27:M48 27 ls (.int z::st) H Q=Q (some (.int z)) H:=w_iret d2 rfl
theorem m48_28:M48 28 ls st H Q=M48 29 ls (.int 0::st) H Q:=w_con d3 rfl (by decide)
theorem m48_29:M48 29 ls (.int z::st) H Q=Q (some (.int z)) H:=w_iret d2 rfl
theorem m49_0:M49 0 [.val (.ref (b+1)),.val (.int v1)] st H Q=M49 5 [.val (.ref (b+1)),.val (.int v1)] (.int 31::.int 0::.int v1::.ref (b+1)::st) H Q:=(w_x d0 rfl).trans ((w_x d1 rfl).trans ((w_ki 0 d3 rfl).trans (w_ki 31 d27 rfl)))
theorem cr49_126:vR tables_1 dn y49 126=some (true,y2,prog_1_method_64_code,4,(some .boolean),3,0):=cp ⟨[.int,.int,.int],some .boolean⟩ rc_2 dn_2 dn_49
theorem m49_5:M49 5 ls [.int a2,.int a1,.int a0,.ref (b+1)] (put (b+1) e s A g) Q=M2 0 [.val (.ref (b+1)),.val (.int a0),.val (.int a1),.val (.int a2)] [] (put (b+1) e s A g) (fun v H1 => M49 8 ls (v.toList ++ []) H1 Q):=wv [.int a2,.int a1,.int a0] [] d18 cr49_126 rfl rfl rfl rfl rfl
theorem m49_8:M49 8 ls (.int x::st) H Q=if x=0 then M49 11 ls st H Q else M49 13 ls st H Q:=w_ifN d10 (z_ne x) rfl
theorem m49_11:M49 11 ls st H Q=M49 12 ls (.int 0::st) H Q:=w_con d3 rfl (by decide)
theorem m49_12:M49 12 ls (.int z::st) H Q=Q (some (.int z)) H:=w_iret d2 rfl
theorem m49_13:M49 13 [.val (.ref (b+1)),.val (.int v1)] st (put (b+1) e s A g) Q=(inB v1 (A 1)∧M49 19 [.val (.ref (b+1)),.val (.int v1)] (.int (getA (A 1) v1)::st) (put (b+1) e s A g) Q):=(w_x d0 rfl).trans ((w_get (dc (.getfield 13,3)) gf_13 put_o rfl).trans ((w_x d1 rfl).trans (w_ild d7 rfl put_a1)))
theorem m49_19:M49 19 ls (.int z::st) H Q=Q (some (.int z)) H:=w_iret d2 rfl
theorem m50_0:M50 0 (.val (.ref (b+1))::.val (.int v1)::ls) st H Q=M50 4 (.val (.ref (b+1))::.val (.int v1)::ls) (.int 3::.int 0::.int v1::.ref (b+1)::st) H Q:=(w_x d0 rfl).trans ((w_x d1 rfl).trans ((w_ki 0 d3 rfl).trans (w_ki 3 d15 rfl)))
theorem cr50_126:vR tables_1 dn y50 126=some (true,y2,prog_1_method_64_code,4,(some .boolean),3,95):=cp ⟨[.int,.int,.int],some .boolean⟩ rc_2 dn_2 dn_50
theorem m50_4:M50 4 ls [.int a2,.int a1,.int a0,.ref (b+1)] (put (b+1) e s A g) Q=M2 0 [.val (.ref (b+1)),.val (.int a0),.val (.int a1),.val (.int a2)] [] (put (b+1) e s A g) (fun v H1 => M50 7 ls (v.toList ++ []) H1 Q):=wv [.int a2,.int a1,.int a0] [] d18 cr50_126 rfl rfl rfl rfl rfl
theorem m50_7:M50 7 ls (.int x::st) H Q=if x=0 then M50 10 ls st H Q else M50 12 ls st H Q:=w_ifN d10 (z_ne x) rfl
theorem m50_10:M50 10 ls st H Q=M50 11 ls (.int 0::st) H Q:=w_con d3 rfl (by decide)
theorem m50_11:M50 11 ls (.int z::st) H Q=Q (some (.int z)) H:=w_iret d2 rfl
theorem m50_12:M50 12 (.val (.ref (b+1))::.val (.int v1)::ls) st (put (b+1) e s A g) Q=(inB v1 (A 10)∧M50 23 (.val (.ref (b+1))::.val (.int v1)::ls) (.int (getA (A 10) v1)::.int v1::.ref ((b+1)+11)::st) (put (b+1) e s A g) Q):=(w_x d0 rfl).trans ((w_get (dc (.getfield 40,3)) gf_40 put_o rfl).trans ((w_x d1 rfl).trans ((w_x d0 rfl).trans ((w_get (dc (.getfield 40,3)) gf_40 put_o rfl).trans ((w_x d1 rfl).trans (w_ild d7 rfl put_a10))))))
theorem m50_23:M50 23 ls st H Q=M50 24 ls (.int 1::st) H Q:=w_con d5 rfl (by decide)
theorem m50_24:M50 24 ls (.int y::.int x::st) H Q=M50 25 ls (.int (x+y)::st) H Q:=w_x d9 rfl
theorem m50_25:M50 25 ls (.int v::.int j::.ref ((b+1)+11)::st) (put (b+1) e s A g) Q=(inB j (A 10)∧M50 26 ls st (put (b+1) e s (ou A 10 (setA (A 10) j v)) g) Q):=w_ist d8 rfl put_a10 (by omega) rfl put_w10
theorem m50_26:M50 26 (.val (.ref (b+1))::.val (.int v1)::ls) st H Q=M50 29 (.val (.ref (b+1))::.val (.int v1)::ls) (.int 0::.int v1::.ref (b+1)::st) H Q:=(w_x d0 rfl).trans ((w_x d1 rfl).trans (w_ki 0 d3 rfl))
theorem cr50_256:vR tables_1 dn y50 256=some (true,y42,prog_1_method_45_code,7,(some .int),2,17):=cp ⟨[.int,.int],some .int⟩ rc_42 dn_42 dn_50
theorem m50_29:M50 29 ls [.int a1,.int a0,.ref (b+1)] (put (b+1) e s A g) Q=M42 0 [.val (.ref (b+1)),.val (.int a0),.val (.int a1),.unset,.unset,.unset,.unset] [] (put (b+1) e s A g) (fun v H1 => M50 32 ls (v.toList ++ []) H1 Q):=wv [.int a1,.int a0] [] (dc (.invokevirtual 256,3)) cr50_256 rfl rfl rfl rfl rfl
theorem m50_32u:M50 32 [a,c,d,.unset] ((.int v)::st) H Q=M50 33 [a,c,d,.val (.int v)] st H Q:=ws 3 d17 rfl rfl rfl rfl rfl rfl
theorem m50_33:M50 33 (.val (.ref (b+1))::ls) st (put (b+1) e s A g) Q=if (s 16)=0 then M50 55 (.val (.ref (b+1))::ls) st (put (b+1) e s A g) Q else M50 40 (.val (.ref (b+1))::ls) st (put (b+1) e s A g) Q:=(w_x d0 rfl).trans ((w_get (dc (.getfield 259,3)) gf_259 put_o rfl).trans (w_if (dc (.ifCond .eq 18,3)) (z_eq (s 16)) rfl))
theorem pf50_116:pfR tables_1 y50.cls y50.name 116=some ("AgentExprDbg", 35,.int):=by decide +kernel
theorem m50_40:M50 40 (.val (.ref (b+1))::ls) st (put (b+1) e s A g) Q=M50 48 (.val (.ref (b+1))::ls) st (put (b+1) e (ou s 5 (s 16)) A g) Q:=(w_x d0 rfl).trans ((w_x d0 rfl).trans ((w_get (dc (.getfield 259,3)) gf_259 put_o rfl).trans (w_put (dc (.putfield 116,3)) pf50_116 put_o (Nat.succ_le_succ (Nat.zero_le _)) (by show 35 < 60; omega) rfl put_s5)))
theorem pf50_141:pfR tables_1 y50.cls y50.name 141=some ("AgentExprDbg", 48,.boolean):=by decide +kernel
theorem m50_48:M50 48 (.val (.ref (b+1))::ls) st (put (b+1) e s A g) Q=M50 53 (.val (.ref (b+1))::ls) st (put (b+1) e (ou s 2 (nar .boolean 1)) A g) Q:=(w_x d0 rfl).trans ((w_ki 1 d5 rfl).trans (w_put (dc (.putfield 141,3)) pf50_141 put_o (Nat.succ_le_succ (Nat.zero_le _)) (by show 48 < 60; omega) rfl put_s2))
theorem m50_53:M50 53 ls st H Q=M50 54 ls (.int 4::st) H Q:=w_con d12 rfl (by decide)
theorem m50_54:M50 54 ls (.int z::st) H Q=Q (some (.int z)) H:=w_iret d2 rfl
theorem m50_55:M50 55 [a,c,d,.val (.int v3)] st H Q=if v3=0 then M50 59 [a,c,d,.val (.int v3)] st H Q else M50 61 [a,c,d,.val (.int v3)] st H Q:=(w_x d6 rfl).trans (w_ifN d10 (z_ne v3) rfl)
theorem m50_59:M50 59 ls st H Q=M50 60 ls (.int 0::st) H Q:=w_con d3 rfl (by decide)
theorem m50_60:M50 60 ls (.int z::st) H Q=Q (some (.int z)) H:=w_iret d2 rfl
theorem m50_61:M50 61 (.val (.ref (b+1))::.val (.int v1)::.val (.int v2)::ls) st H Q=M50 64 (.val (.ref (b+1))::.val (.int v1)::.val (.int v2)::ls) (.int v2::.int v1::.ref (b+1)::st) H Q:=(w_x d0 rfl).trans ((w_x d1 rfl).trans (w_x d4 rfl))
theorem cr50_262:vR tables_1 dn y50 262=some (true,y51,prog_1_method_40_code,6,none,2,0):=cp ⟨[.int,.int],none⟩ rc_51 dn_51 dn_50
theorem m50_64:M50 64 ls [.int a1,.int a0,.ref (b+1)] (put (b+1) e s A g) Q=M51 0 [.val (.ref (b+1)),.val (.int a0),.val (.int a1),.unset,.unset,.unset] [] (put (b+1) e s A g) (fun v H1 => M50 67 ls (v.toList ++ []) H1 Q):=wv [.int a1,.int a0] [] (dc (.invokevirtual 262,3)) cr50_262 rfl rfl rfl rfl rfl
theorem m50_67:M50 67 (.val (.ref r)::ls) st H Q=M50 68 (.val (.ref r)::ls) (.ref r::st) H Q:=w_x d0 rfl
theorem cr50_266:vR tables_1 dn y50 266=some (true,y52,prog_1_method_41_code,1,(some .boolean),0,83):=cp ⟨[],some .boolean⟩ rc_52 dn_52 dn_50
theorem m50_68:M50 68 ls [.ref (b+1)] (put (b+1) e s A g) Q=M52 0 [.val (.ref (b+1))] [] (put (b+1) e s A g) (fun v H1 => M50 71 ls (v.toList ++ []) H1 Q):=wv [] [] (dc (.invokevirtual 266,3)) cr50_266 rfl rfl rfl rfl rfl
theorem m50_71:M50 71 ls (.int x::st) H Q=if x=0 then M50 74 ls st H Q else M50 81 ls st H Q:=w_ifN (dc (.ifCond .ne 10,3)) (z_ne x) rfl
theorem m50_74:M50 74 (.val (.ref (b+1))::ls) st (put (b+1) e s A g) Q=M50 79 (.val (.ref (b+1))::ls) st (put (b+1) e (ou s 2 (nar .boolean 1)) A g) Q:=(w_x d0 rfl).trans ((w_ki 1 d5 rfl).trans (w_put (dc (.putfield 141,3)) pf50_141 put_o (Nat.succ_le_succ (Nat.zero_le _)) (by show 48 < 60; omega) rfl put_s2))
theorem m50_79:M50 79 ls st H Q=M50 80 ls (.int 3::st) H Q:=w_con d15 rfl (by decide)
theorem m50_80:M50 80 ls (.int z::st) H Q=Q (some (.int z)) H:=w_iret d2 rfl
theorem m50_81:M50 81 (.val (.ref (b+1))::.val (.int v1)::ls) st (put (b+1) e s A g) Q=(inB v1 (A 9)∧M50 87 (.val (.ref (b+1))::.val (.int v1)::ls) (.int (getA (A 9) v1)::st) (put (b+1) e s A g) Q):=(w_x d0 rfl).trans ((w_get (dc (.getfield 37,3)) gf_37 put_o rfl).trans ((w_x d1 rfl).trans (w_ild d7 rfl put_a9)))
theorem m50_87:M50 87 ls (.int x::st) H Q=if x=0 then M50 90 ls st H Q else M50 97 ls st H Q:=w_ifN (dc (.ifCond .ne 10,3)) (z_ne x) rfl
theorem m50_90:M50 90 (.val (.ref (b+1))::ls) st (put (b+1) e s A g) Q=M50 95 (.val (.ref (b+1))::ls) st (put (b+1) e (ou s 2 (nar .boolean 1)) A g) Q:=(w_x d0 rfl).trans ((w_ki 1 d5 rfl).trans (w_put (dc (.putfield 141,3)) pf50_141 put_o (Nat.succ_le_succ (Nat.zero_le _)) (by show 48 < 60; omega) rfl put_s2))
theorem m50_95:M50 95 ls st H Q=M50 96 ls (.int 2::st) H Q:=w_con d20 rfl (by decide)
theorem m50_96:M50 96 ls (.int z::st) H Q=Q (some (.int z)) H:=w_iret d2 rfl
theorem m50_97:M50 97 ls st H Q=M50 98 ls (.int 0::st) H Q:=w_con d3 rfl (by decide)
theorem m50_98:M50 98 ls (.int z::st) H Q=Q (some (.int z)) H:=w_iret d2 rfl
theorem pf51_269:pfR tables_1 y51.cls y51.name 269=some ("AgentExprDbg", 52,.int):=by decide +kernel
theorem m51_0:M51 0 (.val (.ref (b+1))::ls) st (put (b+1) e s A g) Q=M51 10 (.val (.ref (b+1))::ls) st (put (b+1) e (ou s 22 (((s 22)+1))) A g) Q:=(w_x d0 rfl).trans ((w_x d0 rfl).trans ((w_get (dc (.getfield 269,3)) gf_269 put_o rfl).trans ((w_ki 1 d5 rfl).trans ((w_x d9 rfl).trans (w_put (dc (.putfield 269,3)) pf51_269 put_o (Nat.succ_le_succ (Nat.zero_le _)) (by show 52 < 60; omega) rfl put_s22)))))
theorem m51_10:M51 10 (.val (.ref (b+1))::.val (.int v1)::ls) st (put (b+1) e s A g) Q=(inB v1 (A 11)∧M51 16 (.val (.ref (b+1))::.val (.int v1)::ls) (.int (getA (A 11) v1)::st) (put (b+1) e s A g) Q):=(w_x d0 rfl).trans ((w_get (dc (.getfield 43,3)) gf_43 put_o rfl).trans ((w_x d1 rfl).trans (w_ild d7 rfl put_a11)))
theorem m51_16u:M51 16 (a::c::d::.unset::ls) ((.int v)::st) H Q=M51 17 (a::c::d::.val (.int v)::ls) st H Q:=ws 3 d17 rfl rfl rfl rfl rfl rfl
theorem pf51_272:pfR tables_1 y51.cls y51.name 272=some ("AgentExprDbg", 54,.int):=by decide +kernel
theorem m51_17:M51 17 (.val (.ref (b+1))::c::.val (.int v2)::ls) st (put (b+1) e s A g) Q=M51 22 (.val (.ref (b+1))::c::.val (.int v2)::ls) st (put (b+1) e (ou s 23 v2) A g) Q:=(w_x d0 rfl).trans ((w_x d4 rfl).trans (w_put (dc (.putfield 272,3)) pf51_272 put_o (Nat.succ_le_succ (Nat.zero_le _)) (by show 54 < 60; omega) rfl put_s23))
theorem pf51_275:pfR tables_1 y51.cls y51.name 275=some ("AgentExprDbg", 55,.int):=by decide +kernel
theorem m51_22:M51 22 (.val (.ref (b+1))::.val (.int v1)::ls) st (put (b+1) e s A g) Q=M51 27 (.val (.ref (b+1))::.val (.int v1)::ls) st (put (b+1) e (ou s 24 v1) A g) Q:=(w_x d0 rfl).trans ((w_x d1 rfl).trans (w_put (dc (.putfield 275,3)) pf51_275 put_o (Nat.succ_le_succ (Nat.zero_le _)) (by show 55 < 60; omega) rfl put_s24))
theorem m51_27:M51 27 (.val (.ref (b+1))::c::d::.val (.int v3)::ls) st H Q=if 0 < v3 then M51 32 (.val (.ref (b+1))::c::d::.val (.int v3)::ls) (.ref (b+1)::st) H Q else M51 38 (.val (.ref (b+1))::c::d::.val (.int v3)::ls) (.ref (b+1)::st) H Q:=(w_x d0 rfl).trans ((w_x d6 rfl).trans (w_ifN (dc (.ifCond .le 9,3)) (z_le v3) rfl))
theorem m51_32:M51 32 (a::c::d::.val (.int v3)::ls) st H Q=M51 39 (a::c::d::.val (.int v3)::ls) (.int (v3 - 1)::st) H Q:=(w_x d6 rfl).trans ((w_ki 1 d5 rfl).trans ((w_x d21 rfl).trans (w_x d14 rfl)))
theorem m51_38:M51 38 ls st H Q=M51 39 ls (.int 0::st) H Q:=w_con d3 rfl (by decide)
theorem pf51_278:pfR tables_1 y51.cls y51.name 278=some ("AgentExprDbg", 56,.int):=by decide +kernel
theorem m51_39:M51 39 ls (.int v::.ref (b+1)::st) (put (b+1) e s A g) Q=M51 42 ls st (put (b+1) e (ou s 25 v) A g) Q:=w_put (dc (.putfield 278,3)) pf51_278 put_o (Nat.succ_le_succ (Nat.zero_le _)) (by show 56 < 60; omega) rfl put_s25
theorem pf51_281:pfR tables_1 y51.cls y51.name 281=some ("AgentExprDbg", 57,.int):=by decide +kernel
theorem m51_42:M51 42 (.val (.ref (b+1))::ls) st (put (b+1) e s A g) Q=M51 47 (.val (.ref (b+1))::ls) st (put (b+1) e (ou s 26 0) A g) Q:=(w_x d0 rfl).trans ((w_ki 0 d3 rfl).trans (w_put (dc (.putfield 281,3)) pf51_281 put_o (Nat.succ_le_succ (Nat.zero_le _)) (by show 57 < 60; omega) rfl put_s26))
theorem pf51_284:pfR tables_1 y51.cls y51.name 284=some ("AgentExprDbg", 58,.int):=by decide +kernel
theorem m51_47:M51 47 (.val (.ref (b+1))::ls) st (put (b+1) e s A g) Q=M51 55 (.val (.ref (b+1))::ls) st (put (b+1) e (ou s 27 (s 22)) A g) Q:=(w_x d0 rfl).trans ((w_x d0 rfl).trans ((w_get (dc (.getfield 269,3)) gf_269 put_o rfl).trans (w_put (dc (.putfield 284,3)) pf51_284 put_o (Nat.succ_le_succ (Nat.zero_le _)) (by show 58 < 60; omega) rfl put_s27)))
theorem m51_55:M51 55 (a::c::d::f::.unset::ls) st H Q=M51 58 (a::c::d::f::.val (.int 0)::ls) st H Q:=(w_ki 0 d3 rfl).trans (ws 4 d23 rfl rfl rfl rfl rfl rfl)
theorem m51_58:M51 58 (a::c::d::f::.val (.int v4)::ls) st H Q=if v4 < 3 then M51 64 (a::c::d::f::.val (.int v4)::ls) st H Q else M51 78 (a::c::d::f::.val (.int v4)::ls) st H Q:=(w_x d11 rfl).trans ((w_ki 3 d15 rfl).trans (w_icmpN (dc (.if_icmp .ge 17,3)) (i_ge v4 3) rfl))
theorem m51_64:M51 64 (.val (.ref (b+1))::c::d::f::.val (.int v4)::ls) st (put (b+1) e s A g) Q=(inB v4 (A 31)∧M51 72 (.val (.ref (b+1))::c::d::f::.val (.int v4)::ls) st (put (b+1) e s (ou A 31 (setA (A 31) v4 0)) g) Q):=(w_x d0 rfl).trans ((w_get (dc (.getfield 103,3)) gf_103 put_o rfl).trans ((w_x d11 rfl).trans ((w_ki 0 d3 rfl).trans (w_ist d8 rfl put_a31 (by omega) rfl put_w31))))
theorem m51_72:M51 72 (a::c::d::f::.val (.int v4)::ls) st H Q=M51 58 (a::c::d::f::.val (.int (v4+1))::ls) st H Q:=(w_iinc (dc (.iinc 4 1,3)) rfl (by decide) rfl).trans (w_x (dc (.goto (-17),3)) rfl)
theorem m51_78:M51 78 (a::c::d::f::.val (.int z)::ls) st H Q=M51 81 (a::c::d::f::.val (.int 1)::ls) st H Q:=(w_ki 1 d5 rfl).trans (ws 4 d23 rfl rfl rfl rfl rfl rfl)
theorem m51_81:M51 81 (a::c::d::.val (.int v3)::.val (.int v4)::ls) st H Q=if v4 < v3 then M51 87 (a::c::d::.val (.int v3)::.val (.int v4)::ls) st H Q else M51 144 (a::c::d::.val (.int v3)::.val (.int v4)::ls) st H Q:=(w_x d11 rfl).trans ((w_x d6 rfl).trans (w_icmpN (dc (.if_icmp .ge 60,3)) (i_ge v4 v3) rfl))
theorem m51_87:M51 87 (a::c::d::f::.val (.int v4)::ls) st H Q=if v4 < 4 then M51 93 (a::c::d::f::.val (.int v4)::ls) st H Q else M51 144 (a::c::d::f::.val (.int v4)::ls) st H Q:=(w_x d11 rfl).trans ((w_ki 4 d12 rfl).trans (w_icmpN (dc (.if_icmp .ge 54,3)) (i_ge v4 4) rfl))
theorem m51_93:M51 93 (.val (.ref (b+1))::.val (.int v1)::d::f::.val (.int v4)::ls) st H Q=M51 97 (.val (.ref (b+1))::.val (.int v1)::d::f::.val (.int v4)::ls) (.int v4::.int v1::.ref (b+1)::st) H Q:=(w_x d0 rfl).trans ((w_x d1 rfl).trans (w_x d11 rfl))
theorem cr51_256:vR tables_1 dn y51 256=some (true,y42,prog_1_method_45_code,7,(some .int),2,0):=cp ⟨[.int,.int],some .int⟩ rc_42 dn_42 dn_51
theorem m51_97:M51 97 ls [.int a1,.int a0,.ref (b+1)] (put (b+1) e s A g) Q=M42 0 [.val (.ref (b+1)),.val (.int a0),.val (.int a1),.unset,.unset,.unset,.unset] [] (put (b+1) e s A g) (fun v H1 => M51 100 ls (v.toList ++ []) H1 Q):=wv [.int a1,.int a0] [] (dc (.invokevirtual 256,3)) cr51_256 rfl rfl rfl rfl rfl
theorem m51_100g (h:okS l):M51 100 [a,c,d,f,k,l] ((.int v)::st) H Q=M51 102 [a,c,d,f,k,.val (.int v)] st H Q:=by rcases h with rfl | ⟨z,rfl⟩ <;> exact ws 5 (dc (.istore 5,2)) rfl rfl rfl rfl rfl rfl
theorem m51_102:M51 102 (.val (.ref (b+1))::ls) st (put (b+1) e s A g) Q=if (s 16)=0 then M51 127 (.val (.ref (b+1))::ls) st (put (b+1) e s A g) Q else M51 109 (.val (.ref (b+1))::ls) st (put (b+1) e s A g) Q:=(w_x d0 rfl).trans ((w_get (dc (.getfield 259,3)) gf_259 put_o rfl).trans (w_if (dc (.ifCond .eq 21,3)) (z_eq (s 16)) rfl))
theorem m51_109:M51 109 (.val (.ref (b+1))::c::d::f::.val (.int v4)::ls) st (put (b+1) e s A g) Q=M51 124 (.val (.ref (b+1))::c::d::f::.val (.int v4)::ls) st (put (b+1) e (ou s 26 (((s 26) ||| ((1 <<< ((v4 - 1) &&& 31)))))) A g) Q:=(w_x d0 rfl).trans ((w_x d0 rfl).trans ((w_get (dc (.getfield 281,3)) gf_281 put_o rfl).trans ((w_ki 1 d5 rfl).trans ((w_x d11 rfl).trans ((w_ki 1 d5 rfl).trans ((w_x d21 rfl).trans ((w_x (dc (.ishl,1)) rfl).trans ((w_x (dc (.ior,1)) rfl).trans (w_put (dc (.putfield 281,3)) pf51_281 put_o (Nat.succ_le_succ (Nat.zero_le _)) (by show 57 < 60; omega) rfl put_s26)))))))))
theorem m51_124:M51 124 ls st H Q=M51 138 ls st H Q:=w_x (dc (.goto 14,3)) rfl
theorem m51_127:M51 127 [.val (.ref (b+1)),c,d,f,.val (.int v4),.val (.int v5)] st (put (b+1) e s A g) Q=(inB (v4 - 1) (A 31)∧M51 138 [.val (.ref (b+1)),c,d,f,.val (.int v4),.val (.int v5)] st (put (b+1) e s (ou A 31 (setA (A 31) (v4 - 1) v5)) g) Q):=(w_x d0 rfl).trans ((w_get (dc (.getfield 103,3)) gf_103 put_o rfl).trans ((w_x d11 rfl).trans ((w_ki 1 d5 rfl).trans ((w_x d21 rfl).trans ((w_x (dc (.iload 5,2)) rfl).trans (w_ist d8 rfl put_a31 (by omega) rfl put_w31))))))
theorem m51_138:M51 138 (a::c::d::f::.val (.int v4)::ls) st H Q=M51 81 (a::c::d::f::.val (.int (v4+1))::ls) st H Q:=(w_iinc (dc (.iinc 4 1,3)) rfl (by decide) rfl).trans (w_x (dc (.goto (-60),3)) rfl)
theorem m51_144:M51 144 ls [] H Q=Q none H:=w_vret d24 rfl
theorem m52_0:M52 0 [.val (.ref (b+1))] st (put (b+1) e s A g) Q=if (s 20) < (s 17) then M52 11 [.val (.ref (b+1))] st (put (b+1) e s A g) Q else M52 36 [.val (.ref (b+1))] st (put (b+1) e s A g) Q:=(w_x d0 rfl).trans ((w_get (dc (.getfield 287,3)) gf_287 put_o rfl).trans ((w_x d0 rfl).trans ((w_get (dc (.getfield 106,3)) gf_106 put_o rfl).trans (w_icmpN (dc (.if_icmp .ge 28,3)) (i_ge (s 20) (s 17)) rfl))))
theorem m52_11:M52 11 [.val (.ref (b+1))] st (put (b+1) e s A g) Q=M52 21 [.val (.ref (b+1))] (.int ((s 19)+(s 20))::.ref (b+1)::st) (put (b+1) e s A g) Q:=(w_x d0 rfl).trans ((w_x d0 rfl).trans ((w_get (dc (.getfield 290,3)) gf_290 put_o rfl).trans ((w_x d0 rfl).trans ((w_get (dc (.getfield 287,3)) gf_287 put_o rfl).trans (w_x d9 rfl)))))
theorem cr52_293:vR tables_1 dn y52 293=some (true,y53,prog_1_method_42_code,4,none,1,0):=cp ⟨[.int],none⟩ rc_53 dn_53 dn_52
theorem m52_21:M52 21 ls [.int a0,.ref (b+1)] (put (b+1) e s A g) Q=M53 0 [.val (.ref (b+1)),.val (.int a0),.unset,.unset] [] (put (b+1) e s A g) (fun v H1 => M52 24 ls (v.toList ++ []) H1 Q):=wv [.int a0] [] (dc (.invokevirtual 293,3)) cr52_293 rfl rfl rfl rfl rfl
theorem pf52_287:pfR tables_1 y52.cls y52.name 287=some ("AgentExprDbg", 49,.int):=by decide +kernel
theorem m52_24:M52 24 [.val (.ref (b+1))] st (put (b+1) e s A g) Q=M52 34 [.val (.ref (b+1))] st (put (b+1) e (ou s 20 (((s 20)+1))) A g) Q:=(w_x d0 rfl).trans ((w_x d0 rfl).trans ((w_get (dc (.getfield 287,3)) gf_287 put_o rfl).trans ((w_ki 1 d5 rfl).trans ((w_x d9 rfl).trans (w_put (dc (.putfield 287,3)) pf52_287 put_o (Nat.succ_le_succ (Nat.zero_le _)) (by show 49 < 60; omega) rfl put_s20)))))
theorem m52_34:M52 34 ls st H Q=M52 35 ls (.int 1::st) H Q:=w_con d5 rfl (by decide)
theorem m52_35:M52 35 ls (.int z::st) H Q=Q (some (.int (nar .boolean z))) H:=w_iretN d2 rfl (by simp)
theorem pf52_296:pfR tables_1 y52.cls y52.name 296=some ("AgentExprDbg", 53,.int):=by decide +kernel
theorem m52_36:M52 36 [.val (.ref (b+1))] st (put (b+1) e s A g) Q=M52 46 [.val (.ref (b+1))] st (put (b+1) e (ou s 21 (((s 21)+1))) A g) Q:=(w_x d0 rfl).trans ((w_x d0 rfl).trans ((w_get (dc (.getfield 296,3)) gf_296 put_o rfl).trans ((w_ki 1 d5 rfl).trans ((w_x d9 rfl).trans (w_put (dc (.putfield 296,3)) pf52_296 put_o (Nat.succ_le_succ (Nat.zero_le _)) (by show 53 < 60; omega) rfl put_s21)))))
theorem m52_46:M52 46 [.val (.ref (b+1))] st (put (b+1) e s A g) Q=if (s 18)=0 then M52 53 [.val (.ref (b+1))] st (put (b+1) e s A g) Q else M52 83 [.val (.ref (b+1))] st (put (b+1) e s A g) Q:=(w_x d0 rfl).trans ((w_get (dc (.getfield 110,3)) gf_110 put_o rfl).trans (w_ifN (dc (.ifCond .ne 33,3)) (z_ne (s 18)) rfl))
theorem pf52_290:pfR tables_1 y52.cls y52.name 290=some ("AgentExprDbg", 59,.int):=by decide +kernel
theorem m52_53:M52 53 [.val (.ref (b+1))] st (put (b+1) e s A g) Q=M52 66 [.val (.ref (b+1))] st (put (b+1) e (ou s 19 (((((s 19)+1)) &&& 7))) A g) Q:=(w_x d0 rfl).trans ((w_x d0 rfl).trans ((w_get (dc (.getfield 290,3)) gf_290 put_o rfl).trans ((w_ki 1 d5 rfl).trans ((w_x d9 rfl).trans ((w_ki 7 d22 rfl).trans ((w_x (dc (.iand,1)) rfl).trans (w_put (dc (.putfield 290,3)) pf52_290 put_o (Nat.succ_le_succ (Nat.zero_le _)) (by show 59 < 60; omega) rfl put_s19)))))))
theorem m52_66:M52 66 [.val (.ref (b+1))] st (put (b+1) e s A g) Q=M52 78 [.val (.ref (b+1))] (.int ((((s 19)+(s 20))) - 1)::.ref (b+1)::st) (put (b+1) e s A g) Q:=(w_x d0 rfl).trans ((w_x d0 rfl).trans ((w_get (dc (.getfield 290,3)) gf_290 put_o rfl).trans ((w_x d0 rfl).trans ((w_get (dc (.getfield 287,3)) gf_287 put_o rfl).trans ((w_x d9 rfl).trans ((w_ki 1 d5 rfl).trans (w_x d21 rfl)))))))
theorem m52_78:M52 78 ls [.int a0,.ref (b+1)] (put (b+1) e s A g) Q=M53 0 [.val (.ref (b+1)),.val (.int a0),.unset,.unset] [] (put (b+1) e s A g) (fun v H1 => M52 81 ls (v.toList ++ []) H1 Q):=wv [.int a0] [] (dc (.invokevirtual 293,3)) cr52_293 rfl rfl rfl rfl rfl
theorem m52_81:M52 81 ls st H Q=M52 82 ls (.int 1::st) H Q:=w_con d5 rfl (by decide)
theorem m52_82:M52 82 ls (.int z::st) H Q=Q (some (.int (nar .boolean z))) H:=w_iretN d2 rfl (by simp)
theorem m52_83:M52 83 ls st H Q=M52 84 ls (.int 0::st) H Q:=w_con d3 rfl (by decide)
theorem m52_84:M52 84 ls (.int z::st) H Q=Q (some (.int (nar .boolean z))) H:=w_iretN d2 rfl (by simp)
theorem m53_0:M53 0 (.val (.ref (b+1))::.val (.int v1)::.unset::ls) st (put (b+1) e s A g) Q=(inB (v1 &&& 7) (A 25)∧M53 15 (.val (.ref (b+1))::.val (.int v1)::.val (.int (v1 &&& 7))::ls) st (put (b+1) e s (ou A 25 (setA (A 25) (v1 &&& 7) (s 23))) g) Q):=(w_x d1 rfl).trans ((w_ki 7 d22 rfl).trans ((w_x (dc (.iand,1)) rfl).trans ((ws 2 d25 rfl rfl rfl rfl rfl rfl).trans ((w_x d0 rfl).trans ((w_get (dc (.getfield 85,3)) gf_85 put_o rfl).trans ((w_x d4 rfl).trans ((w_x d0 rfl).trans ((w_get (dc (.getfield 272,3)) gf_272 put_o rfl).trans (w_ist d8 rfl put_a25 (by omega) rfl put_w25)))))))))
theorem m53_15:M53 15 (.val (.ref (b+1))::c::.val (.int v2)::ls) st (put (b+1) e s A g) Q=(inB v2 (A 26)∧M53 25 (.val (.ref (b+1))::c::.val (.int v2)::ls) st (put (b+1) e s (ou A 26 (setA (A 26) v2 (s 24))) g) Q):=(w_x d0 rfl).trans ((w_get (dc (.getfield 88,3)) gf_88 put_o rfl).trans ((w_x d4 rfl).trans ((w_x d0 rfl).trans ((w_get (dc (.getfield 275,3)) gf_275 put_o rfl).trans (w_ist d8 rfl put_a26 (by omega) rfl put_w26)))))
theorem m53_25:M53 25 (.val (.ref (b+1))::c::.val (.int v2)::ls) st (put (b+1) e s A g) Q=(inB v2 (A 27)∧M53 35 (.val (.ref (b+1))::c::.val (.int v2)::ls) st (put (b+1) e s (ou A 27 (setA (A 27) v2 (s 25))) g) Q):=(w_x d0 rfl).trans ((w_get (dc (.getfield 91,3)) gf_91 put_o rfl).trans ((w_x d4 rfl).trans ((w_x d0 rfl).trans ((w_get (dc (.getfield 278,3)) gf_278 put_o rfl).trans (w_ist d8 rfl put_a27 (by omega) rfl put_w27)))))
theorem m53_35:M53 35 (.val (.ref (b+1))::c::.val (.int v2)::ls) st (put (b+1) e s A g) Q=(inB v2 (A 28)∧M53 45 (.val (.ref (b+1))::c::.val (.int v2)::ls) st (put (b+1) e s (ou A 28 (setA (A 28) v2 (s 26))) g) Q):=(w_x d0 rfl).trans ((w_get (dc (.getfield 94,3)) gf_94 put_o rfl).trans ((w_x d4 rfl).trans ((w_x d0 rfl).trans ((w_get (dc (.getfield 281,3)) gf_281 put_o rfl).trans (w_ist d8 rfl put_a28 (by omega) rfl put_w28)))))
theorem m53_45:M53 45 (.val (.ref (b+1))::c::.val (.int v2)::ls) st (put (b+1) e s A g) Q=(inB v2 (A 29)∧M53 55 (.val (.ref (b+1))::c::.val (.int v2)::ls) st (put (b+1) e s (ou A 29 (setA (A 29) v2 (s 27))) g) Q):=(w_x d0 rfl).trans ((w_get (dc (.getfield 97,3)) gf_97 put_o rfl).trans ((w_x d4 rfl).trans ((w_x d0 rfl).trans ((w_get (dc (.getfield 284,3)) gf_284 put_o rfl).trans (w_ist d8 rfl put_a29 (by omega) rfl put_w29)))))
theorem m53_55:M53 55 [a,c,d,.unset] st H Q=M53 57 [a,c,d,.val (.int 0)] st H Q:=(w_ki 0 d3 rfl).trans (ws 3 d17 rfl rfl rfl rfl rfl rfl)
theorem m53_57:M53 57 [a,c,d,.val (.int v3)] st H Q=if v3 < 3 then M53 62 [a,c,d,.val (.int v3)] st H Q else M53 84 [a,c,d,.val (.int v3)] st H Q:=(w_x d6 rfl).trans ((w_ki 3 d15 rfl).trans (w_icmpN (dc (.if_icmp .ge 25,3)) (i_ge v3 3) rfl))
theorem m53_62:M53 62 [.val (.ref (b+1)),c,.val (.int v2),.val (.int v3)] st (put (b+1) e s A g) Q=(inB v3 (A 31)∧M53 77 [.val (.ref (b+1)),c,.val (.int v2),.val (.int v3)] (.int (getA (A 31) v3)::.int ((v2 * 3)+v3)::.ref ((b+1)+31)::st) (put (b+1) e s A g) Q):=(w_x d0 rfl).trans ((w_get (dc (.getfield 100,3)) gf_100 put_o rfl).trans ((w_x d4 rfl).trans ((w_ki 3 d15 rfl).trans ((w_x (dc (.imul,1)) rfl).trans ((w_x d6 rfl).trans ((w_x d9 rfl).trans ((w_x d0 rfl).trans ((w_get (dc (.getfield 103,3)) gf_103 put_o rfl).trans ((w_x d6 rfl).trans (w_ild d7 rfl put_a31))))))))))
theorem m53_77:M53 77 ls (.int v::.int j::.ref ((b+1)+31)::st) (put (b+1) e s A g) Q=(inB j (A 30)∧M53 78 ls st (put (b+1) e s (ou A 30 (setA (A 30) j v)) g) Q):=w_ist d8 rfl put_a30 (by omega) rfl put_w30
theorem m53_78:M53 78 [a,c,d,.val (.int v3)] st H Q=M53 57 [a,c,d,.val (.int (v3+1))] st H Q:=(w_iinc (dc (.iinc 3 1,3)) rfl (by decide) rfl).trans (w_x (dc (.goto (-24),3)) rfl)
theorem m53_84:M53 84 ls [] H Q=Q none H:=w_vret d24 rfl
theorem m54_0:M54 0 (a::.val (.int v1)::ls) st H Q=if v1 < 0 then M54 12 (a::.val (.int v1)::ls) st H Q else M54 4 (a::.val (.int v1)::ls) st H Q:=(w_x d1 rfl).trans (w_if (dc (.ifCond .lt 11,3)) (z_lt v1) rfl)
theorem m54_4:M54 4 (.val (.ref (b+1))::.val (.int v1)::ls) st (put (b+1) e s A g) Q=if v1 < (s 20) then M54 14 (.val (.ref (b+1))::.val (.int v1)::ls) st (put (b+1) e s A g) Q else M54 12 (.val (.ref (b+1))::.val (.int v1)::ls) st (put (b+1) e s A g) Q:=(w_x d1 rfl).trans ((w_x d0 rfl).trans ((w_get (dc (.getfield 287,3)) gf_287 put_o rfl).trans (w_icmp (dc (.if_icmp .lt 5,3)) (i_lt v1 (s 20)) rfl)))
theorem m54_12:M54 12 ls st H Q=M54 13 ls (.int 0::st) H Q:=w_con d3 rfl (by decide)
theorem m54_13:M54 13 ls (.int z::st) H Q=Q (some (.int z)) H:=w_iret d2 rfl
theorem m54_14:M54 14 [.val (.ref (b+1)),.val (.int v1),.val (.int v2),.unset] st (put (b+1) e s A g) Q=if v2=0 then M54 28 [.val (.ref (b+1)),.val (.int v1),.val (.int v2),.val (.int ((((s 19)+v1)) &&& 7))] st (put (b+1) e s A g) Q else M54 35 [.val (.ref (b+1)),.val (.int v1),.val (.int v2),.val (.int ((((s 19)+v1)) &&& 7))] st (put (b+1) e s A g) Q:=(w_x d0 rfl).trans ((w_get (dc (.getfield 290,3)) gf_290 put_o rfl).trans ((w_x d1 rfl).trans ((w_x d9 rfl).trans ((w_ki 7 d22 rfl).trans ((w_x (dc (.iand,1)) rfl).trans ((ws 3 d17 rfl rfl rfl rfl rfl rfl).trans ((w_x d4 rfl).trans (w_ifN (dc (.ifCond .ne 10,3)) (z_ne v2) rfl))))))))
theorem m54_28:M54 28 [.val (.ref (b+1)),c,d,.val (.int v3)] st (put (b+1) e s A g) Q=(inB v3 (A 25)∧M54 34 [.val (.ref (b+1)),c,d,.val (.int v3)] (.int (getA (A 25) v3)::st) (put (b+1) e s A g) Q):=(w_x d0 rfl).trans ((w_get (dc (.getfield 85,3)) gf_85 put_o rfl).trans ((w_x d6 rfl).trans (w_ild d7 rfl put_a25)))
theorem m54_34:M54 34 ls (.int z::st) H Q=Q (some (.int z)) H:=w_iret d2 rfl
theorem m54_35:M54 35 (a::c::.val (.int v2)::ls) st H Q=if v2=1 then M54 40 (a::c::.val (.int v2)::ls) st H Q else M54 47 (a::c::.val (.int v2)::ls) st H Q:=(w_x d4 rfl).trans ((w_ki 1 d5 rfl).trans (w_icmpN (dc (.if_icmp .ne 10,3)) (i_ne v2 1) rfl))
theorem m54_40:M54 40 [.val (.ref (b+1)),c,d,.val (.int v3)] st (put (b+1) e s A g) Q=(inB v3 (A 26)∧M54 46 [.val (.ref (b+1)),c,d,.val (.int v3)] (.int (getA (A 26) v3)::st) (put (b+1) e s A g) Q):=(w_x d0 rfl).trans ((w_get (dc (.getfield 88,3)) gf_88 put_o rfl).trans ((w_x d6 rfl).trans (w_ild d7 rfl put_a26)))
theorem m54_46:M54 46 ls (.int z::st) H Q=Q (some (.int z)) H:=w_iret d2 rfl
theorem m54_47:M54 47 (a::c::.val (.int v2)::ls) st H Q=if v2=2 then M54 52 (a::c::.val (.int v2)::ls) st H Q else M54 59 (a::c::.val (.int v2)::ls) st H Q:=(w_x d4 rfl).trans ((w_ki 2 d20 rfl).trans (w_icmpN (dc (.if_icmp .ne 10,3)) (i_ne v2 2) rfl))
theorem m54_52:M54 52 [.val (.ref (b+1)),c,d,.val (.int v3)] st (put (b+1) e s A g) Q=(inB v3 (A 27)∧M54 58 [.val (.ref (b+1)),c,d,.val (.int v3)] (.int (getA (A 27) v3)::st) (put (b+1) e s A g) Q):=(w_x d0 rfl).trans ((w_get (dc (.getfield 91,3)) gf_91 put_o rfl).trans ((w_x d6 rfl).trans (w_ild d7 rfl put_a27)))
theorem m54_58:M54 58 ls (.int z::st) H Q=Q (some (.int z)) H:=w_iret d2 rfl
theorem m54_59:M54 59 (a::c::.val (.int v2)::ls) st H Q=if v2=3 then M54 64 (a::c::.val (.int v2)::ls) st H Q else M54 71 (a::c::.val (.int v2)::ls) st H Q:=(w_x d4 rfl).trans ((w_ki 3 d15 rfl).trans (w_icmpN (dc (.if_icmp .ne 10,3)) (i_ne v2 3) rfl))
theorem m54_64:M54 64 [.val (.ref (b+1)),c,d,.val (.int v3)] st (put (b+1) e s A g) Q=(inB v3 (A 28)∧M54 70 [.val (.ref (b+1)),c,d,.val (.int v3)] (.int (getA (A 28) v3)::st) (put (b+1) e s A g) Q):=(w_x d0 rfl).trans ((w_get (dc (.getfield 94,3)) gf_94 put_o rfl).trans ((w_x d6 rfl).trans (w_ild d7 rfl put_a28)))
theorem m54_70:M54 70 ls (.int z::st) H Q=Q (some (.int z)) H:=w_iret d2 rfl
theorem m54_71:M54 71 (a::c::.val (.int v2)::ls) st H Q=if v2=7 then M54 77 (a::c::.val (.int v2)::ls) st H Q else M54 84 (a::c::.val (.int v2)::ls) st H Q:=(w_x d4 rfl).trans ((w_ki 7 d22 rfl).trans (w_icmpN (dc (.if_icmp .ne 10,3)) (i_ne v2 7) rfl))
theorem m54_77:M54 77 [.val (.ref (b+1)),c,d,.val (.int v3)] st (put (b+1) e s A g) Q=(inB v3 (A 29)∧M54 83 [.val (.ref (b+1)),c,d,.val (.int v3)] (.int (getA (A 29) v3)::st) (put (b+1) e s A g) Q):=(w_x d0 rfl).trans ((w_get (dc (.getfield 97,3)) gf_97 put_o rfl).trans ((w_x d6 rfl).trans (w_ild d7 rfl put_a29)))
theorem m54_83:M54 83 ls (.int z::st) H Q=Q (some (.int z)) H:=w_iret d2 rfl
theorem m54_84:M54 84 [.val (.ref (b+1)),c,.val (.int v2),.val (.int v3)] st H Q=M54 87 [.val (.ref (b+1)),c,.val (.int v2),.val (.int v3)] (.int v2::.int v3::.ref (b+1)::st) H Q:=(w_x d0 rfl).trans ((w_x d6 rfl).trans (w_x d4 rfl))
theorem cr54_349:vR tables_1 dn y54 349=some (true,y55,prog_1_method_62_code,4,(some .int),2,0):=cp ⟨[.int,.int],some .int⟩ rc_55 dn_55 dn_54
theorem m54_87:M54 87 ls [.int a1,.int a0,.ref (b+1)] (put (b+1) e s A g) Q=M55 0 [.val (.ref (b+1)),.val (.int a0),.val (.int a1),.unset] [] (put (b+1) e s A g) (fun v H1 => M54 90 ls (v.toList ++ []) H1 Q):=wv [.int a1,.int a0] [] (dc (.invokevirtual 349,3)) cr54_349 rfl rfl rfl rfl rfl
theorem m54_90:M54 90 ls (.int z::st) H Q=Q (some (.int z)) H:=w_iret d2 rfl
theorem m55_0:M55 0 (a::c::.val (.int v2)::ls) st H Q=if v2 < 4 then M55 11 (a::c::.val (.int v2)::ls) st H Q else M55 5 (a::c::.val (.int v2)::ls) st H Q:=(w_x d4 rfl).trans ((w_ki 4 d12 rfl).trans (w_icmp (dc (.if_icmp .lt 9,3)) (i_lt v2 4) rfl))
theorem m55_5:M55 5 (a::c::.val (.int v2)::ls) st H Q=if 6 < v2 then M55 11 (a::c::.val (.int v2)::ls) st H Q else M55 13 (a::c::.val (.int v2)::ls) st H Q:=(w_x d4 rfl).trans ((w_ki 6 (dc (.bipush 6,2)) rfl).trans (w_icmpN (dc (.if_icmp .le 5,3)) (i_le v2 6) rfl))
theorem m55_11:M55 11 ls st H Q=M55 12 ls (.int 0::st) H Q:=w_con d3 rfl (by decide)
theorem m55_12:M55 12 ls (.int z::st) H Q=Q (some (.int z)) H:=w_iret d2 rfl
theorem m55_13:M55 13 [.val (.ref (b+1)),.val (.int v1),.val (.int v2),.unset] st (put (b+1) e s A g) Q=(inB v1 (A 27)∧M55 24 [.val (.ref (b+1)),.val (.int v1),.val (.int v2),.val (.int (v2 - 4))] (.int (getA (A 27) v1)::.int (v2 - 4)::st) (put (b+1) e s A g) Q):=(w_x d4 rfl).trans ((w_ki 4 d12 rfl).trans ((w_x d21 rfl).trans ((ws 3 d17 rfl rfl rfl rfl rfl rfl).trans ((w_x d6 rfl).trans ((w_x d0 rfl).trans ((w_get (dc (.getfield 91,3)) gf_91 put_o rfl).trans ((w_x d1 rfl).trans (w_ild d7 rfl put_a27))))))))
theorem m55_24:M55 24 ls (.int y::.int x::st) H Q=if x < y then M55 29 ls st H Q else M55 27 ls st H Q:=w_icmp (dc (.if_icmp .lt 5,3)) (i_lt x y) rfl
theorem m55_27:M55 27 ls st H Q=M55 28 ls (.int 0::st) H Q:=w_con d3 rfl (by decide)
theorem m55_28:M55 28 ls (.int z::st) H Q=Q (some (.int z)) H:=w_iret d2 rfl
theorem m55_29:M55 29 [.val (.ref (b+1)),.val (.int v1),d,.val (.int v3)] st (put (b+1) e s A g) Q=(inB (((v1 * 3)+v3)) (A 30)∧M55 39 [.val (.ref (b+1)),.val (.int v1),d,.val (.int v3)] (.int (getA (A 30) (((v1 * 3)+v3)))::st) (put (b+1) e s A g) Q):=(w_x d0 rfl).trans ((w_get (dc (.getfield 100,3)) gf_100 put_o rfl).trans ((w_x d1 rfl).trans ((w_ki 3 d15 rfl).trans ((w_x (dc (.imul,1)) rfl).trans ((w_x d6 rfl).trans ((w_x d9 rfl).trans (w_ild d7 rfl put_a30)))))))
theorem m55_39:M55 39 ls (.int z::st) H Q=Q (some (.int z)) H:=w_iret d2 rfl
theorem pf56_287:pfR tables_1 y56.cls y56.name 287=some ("AgentExprDbg", 49,.int):=by decide +kernel
theorem m56_0:M56 0 [.val (.ref (b+1))] st (put (b+1) e s A g) Q=M56 5 [.val (.ref (b+1))] st (put (b+1) e (ou s 20 0) A g) Q:=(w_x d0 rfl).trans ((w_ki 0 d3 rfl).trans (w_put (dc (.putfield 287,3)) pf56_287 put_o (Nat.succ_le_succ (Nat.zero_le _)) (by show 49 < 60; omega) rfl put_s20))
theorem pf56_290:pfR tables_1 y56.cls y56.name 290=some ("AgentExprDbg", 59,.int):=by decide +kernel
theorem m56_5:M56 5 [.val (.ref (b+1))] st (put (b+1) e s A g) Q=M56 10 [.val (.ref (b+1))] st (put (b+1) e (ou s 19 0) A g) Q:=(w_x d0 rfl).trans ((w_ki 0 d3 rfl).trans (w_put (dc (.putfield 290,3)) pf56_290 put_o (Nat.succ_le_succ (Nat.zero_le _)) (by show 59 < 60; omega) rfl put_s19))
theorem pf56_296:pfR tables_1 y56.cls y56.name 296=some ("AgentExprDbg", 53,.int):=by decide +kernel
theorem m56_10:M56 10 [.val (.ref (b+1))] st (put (b+1) e s A g) Q=M56 15 [.val (.ref (b+1))] st (put (b+1) e (ou s 21 0) A g) Q:=(w_x d0 rfl).trans ((w_ki 0 d3 rfl).trans (w_put (dc (.putfield 296,3)) pf56_296 put_o (Nat.succ_le_succ (Nat.zero_le _)) (by show 53 < 60; omega) rfl put_s21))
theorem m56_15:M56 15 ls [] H Q=Q none H:=w_vret d24 rfl
theorem m57_0:M57 0 (.val (.ref r)::ls) st H Q=M57 1 (.val (.ref r)::ls) (.ref r::st) H Q:=w_x d0 rfl
theorem cr57_309:vR tables_1 dn y57 309=some (true,y48,prog_1_method_56_code,1,(some .int),0,1):=cp ⟨[],some .int⟩ rc_48 dn_48 dn_57
theorem m57_1:M57 1 ls [.ref (b+1)] (put (b+1) e s A g) Q=M48 0 [.val (.ref (b+1))] [] (put (b+1) e s A g) (fun v H1 => M57 4 ls (v.toList ++ []) H1 Q):=wv [] [] (dc (.invokevirtual 309,3)) cr57_309 rfl rfl rfl rfl rfl
theorem m57_4u:M57 4 [a,c,d,f,.unset] ((.int v)::st) H Q=M57 6 [a,c,d,f,.val (.int v)] st H Q:=ws 4 d23 rfl rfl rfl rfl rfl rfl
theorem m57_6:M57 6 (a::.val (.int v1)::ls) st H Q=if v1=19 then M57 12 (a::.val (.int v1)::ls) st H Q else M57 19 (a::.val (.int v1)::ls) st H Q:=(w_x d1 rfl).trans ((w_ki 19 (dc (.bipush 19,2)) rfl).trans (w_icmpN (dc (.if_icmp .ne 10,3)) (i_ne v1 19) rfl))
theorem m57_12:M57 12 [a,c,d,f,.val (.int v4)] st H Q=if v4=0 then M57 17 [a,c,d,f,.val (.int v4)] st H Q else M57 19 [a,c,d,f,.val (.int v4)] st H Q:=(w_x d11 rfl).trans (w_ifN d10 (z_ne v4) rfl)
theorem m57_17:M57 17 (a::c::.val (.int v)::ls) st H Q=M57 18 (a::c::.val (.int v)::ls) (.int v::st) H Q:=w_x d4 rfl
theorem m57_18:M57 18 ls (.int z::st) H Q=Q (some (.int z)) H:=w_iret d2 rfl
theorem m57_19:M57 19 (a::.val (.int v1)::ls) st H Q=if v1=20 then M57 25 (a::.val (.int v1)::ls) st H Q else M57 37 (a::.val (.int v1)::ls) st H Q:=(w_x d1 rfl).trans ((w_ki 20 (dc (.bipush 20,2)) rfl).trans (w_icmpN (dc (.if_icmp .ne 15,3)) (i_ne v1 20) rfl))
theorem m57_25:M57 25 [a,c,d,f,.val (.int v4)] st H Q=if v4=0 then M57 37 [a,c,d,f,.val (.int v4)] st H Q else M57 30 [a,c,d,f,.val (.int v4)] st H Q:=(w_x d11 rfl).trans (w_if (dc (.ifCond .eq 10,3)) (z_eq v4) rfl)
theorem m57_30:M57 30 (.val (.ref (b+1))::ls) st H Q=M57 32 (.val (.ref (b+1))::ls) (.int 1::.ref (b+1)::st) H Q:=(w_x d0 rfl).trans (w_ki 1 d5 rfl)
theorem cr57_318:vR tables_1 dn y57 318=some (true,y60,prog_1_method_57_code,2,none,1,0):=cp ⟨[.int],none⟩ rc_60 dn_60 dn_57
theorem m57_32:M57 32 ls [.int a0,.ref (b+1)] (put (b+1) e s A g) Q=M60 0 [.val (.ref (b+1)),.val (.int a0)] [] (put (b+1) e s A g) (fun v H1 => M57 35 ls (v.toList ++ []) H1 Q):=wv [.int a0] [] (dc (.invokevirtual 318,3)) cr57_318 rfl rfl rfl rfl rfl
theorem m57_35:M57 35 (a::c::.val (.int v)::ls) st H Q=M57 36 (a::c::.val (.int v)::ls) (.int v::st) H Q:=w_x d4 rfl
theorem m57_36:M57 36 ls (.int z::st) H Q=Q (some (.int z)) H:=w_iret d2 rfl
theorem m57_37:M57 37 (.val (.ref r)::ls) st H Q=M57 38 (.val (.ref r)::ls) (.ref r::st) H Q:=w_x d0 rfl
theorem cr57_327:vR tables_1 dn y57 327=some (true,y46,prog_1_method_55_code,1,(some .int),0,1):=cp ⟨[],some .int⟩ rc_46 dn_46 dn_57
theorem m57_38:M57 38 ls [.ref (b+1)] (put (b+1) e s A g) Q=M46 0 [.val (.ref (b+1))] [] (put (b+1) e s A g) (fun v H1 => M57 41 ls (v.toList ++ []) H1 Q):=wv [] [] (dc (.invokevirtual 327,3)) cr57_327 rfl rfl rfl rfl rfl
theorem m57_41:M57 41 ls ((.int v)::st) H Q=M57 42 ls st H Q:=w_x (dc (.pop,1)) rfl
theorem m57_42:M57 42 (a::c::d::.val (.int v3)::ls) st H Q=M57 45 (a::c::d::.val (.int v3)::ls) (.int (v3+1)::st) H Q:=(w_x d6 rfl).trans ((w_ki 1 d5 rfl).trans (w_x d9 rfl))
theorem m57_45:M57 45 ls (.int z::st) H Q=Q (some (.int z)) H:=w_iret d2 rfl
theorem m58_0:M58 0 (.val (.ref r)::ls) st H Q=M58 1 (.val (.ref r)::ls) (.ref r::st) H Q:=w_x d0 rfl
theorem cr58_327:vR tables_1 dn y58 327=some (true,y46,prog_1_method_55_code,1,(some .int),0,17):=cp ⟨[],some .int⟩ rc_46 dn_46 dn_58
theorem m58_1:M58 1 ls [.ref (b+1)] (put (b+1) e s A g) Q=M46 0 [.val (.ref (b+1))] [] (put (b+1) e s A g) (fun v H1 => M58 4 ls (v.toList ++ []) H1 Q):=wv [] [] (dc (.invokevirtual 327,3)) cr58_327 rfl rfl rfl rfl rfl
theorem m58_4u:M58 4 (a::c::.unset::ls) ((.int v)::st) H Q=M58 5 (a::c::.val (.int v)::ls) st H Q:=ws 2 d25 rfl rfl rfl rfl rfl rfl
theorem m58_5:M58 5 (.val (.ref (b+1))::.val (.int v1)::.val (.int v2)::ls) st H Q=M58 8 (.val (.ref (b+1))::.val (.int v1)::.val (.int v2)::ls) (.int v2::.int v1::.ref (b+1)::st) H Q:=(w_x d0 rfl).trans ((w_x d1 rfl).trans (w_x d4 rfl))
theorem cr58_330:vR tables_1 dn y58 330=some (true,y59,prog_1_method_50_code,3,(some .int),2,0):=cp ⟨[.int,.int],some .int⟩ rc_59 dn_59 dn_58
theorem m58_8:M58 8 ls [.int a1,.int a0,.ref (b+1)] (put (b+1) e s A g) Q=M59 0 [.val (.ref (b+1)),.val (.int a0),.val (.int a1)] [] (put (b+1) e s A g) (fun v H1 => M58 11 ls (v.toList ++ []) H1 Q):=wv [.int a1,.int a0] [] (dc (.invokevirtual 330,3)) cr58_330 rfl rfl rfl rfl rfl
theorem m58_11u:M58 11 [a,c,d,.unset] ((.int v)::st) H Q=M58 12 [a,c,d,.val (.int v)] st H Q:=ws 3 d17 rfl rfl rfl rfl rfl rfl
theorem m58_12:M58 12 [.val (.ref (b+1)),c,d,.val (.int v3)] st H Q=M58 14 [.val (.ref (b+1)),c,d,.val (.int v3)] (.int v3::.ref (b+1)::st) H Q:=(w_x d0 rfl).trans (w_x d6 rfl)
theorem cr58_312:vR tables_1 dn y58 312=some (true,y44,prog_1_method_54_code,2,none,1,16):=cp ⟨[.int],none⟩ rc_44 dn_44 dn_58
theorem m58_14:M58 14 ls [.int a0,.ref (b+1)] (put (b+1) e s A g) Q=M44 0 [.val (.ref (b+1)),.val (.int a0)] [] (put (b+1) e s A g) (fun v H1 => M58 17 ls (v.toList ++ []) H1 Q):=wv [.int a0] [] (dc (.invokevirtual 312,3)) cr58_312 rfl rfl rfl rfl rfl
theorem m58_17:M58 17 ls [] H Q=Q none H:=w_vret d24 rfl
theorem m59_0:M59 0 (a::.val (.int v1)::ls) st H Q=if v1=5 then M59 5 (a::.val (.int v1)::ls) st H Q else M59 9 (a::.val (.int v1)::ls) st H Q:=(w_x d1 rfl).trans ((w_ki 5 (dc (.iconst 5,1)) rfl).trans (w_icmpN (dc (.if_icmp .ne 7,3)) (i_ne v1 5) rfl))
theorem m59_5:M59 5 [a,c,.val (.int v2)] st H Q=M59 8 [a,c,.val (.int v2)] (.int (0 - v2)::st) H Q:=(w_ki 0 d3 rfl).trans ((w_x d4 rfl).trans (w_x d21 rfl))
theorem m59_8:M59 8 ls (.int z::st) H Q=Q (some (.int z)) H:=w_iret d2 rfl
theorem m59_9:M59 9 (a::.val (.int v1)::ls) st H Q=if v1=6 then M59 15 (a::.val (.int v1)::ls) st H Q else M59 25 (a::.val (.int v1)::ls) st H Q:=(w_x d1 rfl).trans ((w_ki 6 (dc (.bipush 6,2)) rfl).trans (w_icmpN (dc (.if_icmp .ne 13,3)) (i_ne v1 6) rfl))
theorem m59_15:M59 15 [a,c,.val (.int v2)] st H Q=if v2=0 then M59 19 [a,c,.val (.int v2)] st H Q else M59 23 [a,c,.val (.int v2)] st H Q:=(w_x d4 rfl).trans (w_ifN (dc (.ifCond .ne 7,3)) (z_ne v2) rfl)
theorem m59_19:M59 19 ls st H Q=M59 24 ls (.int 1::st) H Q:=(w_ki 1 d5 rfl).trans (w_x d14 rfl)
theorem m59_23:M59 23 ls st H Q=M59 24 ls (.int 0::st) H Q:=w_con d3 rfl (by decide)
theorem m59_24:M59 24 ls (.int z::st) H Q=Q (some (.int z)) H:=w_iret d2 rfl
theorem m59_25:M59 25 [.val (.ref (b+1)),c,.val (.int v2)] st H Q=M59 30 [.val (.ref (b+1)),c,.val (.int v2)] (.int 31::.int 0::.int v2::.ref (b+1)::st) H Q:=(w_x d0 rfl).trans ((w_x d4 rfl).trans ((w_ki 0 d3 rfl).trans (w_ki 31 d27 rfl)))
theorem cr59_126:vR tables_1 dn y59 126=some (true,y2,prog_1_method_64_code,4,(some .boolean),3,0):=cp ⟨[.int,.int,.int],some .boolean⟩ rc_2 dn_2 dn_59
theorem m59_30:M59 30 ls [.int a2,.int a1,.int a0,.ref (b+1)] (put (b+1) e s A g) Q=M2 0 [.val (.ref (b+1)),.val (.int a0),.val (.int a1),.val (.int a2)] [] (put (b+1) e s A g) (fun v H1 => M59 33 ls (v.toList ++ []) H1 Q):=wv [.int a2,.int a1,.int a0] [] d18 cr59_126 rfl rfl rfl rfl rfl
theorem m59_33:M59 33 ls (.int x::st) H Q=if x=0 then M59 43 ls st H Q else M59 36 ls st H Q:=w_if (dc (.ifCond .eq 10,3)) (z_eq x) rfl
theorem m59_36:M59 36 [.val (.ref (b+1)),c,.val (.int v2)] st (put (b+1) e s A g) Q=(inB v2 (A 1)∧M59 42 [.val (.ref (b+1)),c,.val (.int v2)] (.int (getA (A 1) v2)::st) (put (b+1) e s A g) Q):=(w_x d0 rfl).trans ((w_get (dc (.getfield 13,3)) gf_13 put_o rfl).trans ((w_x d4 rfl).trans (w_ild d7 rfl put_a1)))
theorem m59_42:M59 42 ls (.int z::st) H Q=Q (some (.int z)) H:=w_iret d2 rfl
theorem pf59_259:pfR tables_1 y59.cls y59.name 259=some ("AgentExprDbg", 50,.int):=by decide +kernel
theorem m59_43:M59 43 (.val (.ref (b+1))::ls) st (put (b+1) e s A g) Q=M59 48 (.val (.ref (b+1))::ls) st (put (b+1) e (ou s 16 2) A g) Q:=(w_x d0 rfl).trans ((w_ki 2 d20 rfl).trans (w_put (dc (.putfield 259,3)) pf59_259 put_o (Nat.succ_le_succ (Nat.zero_le _)) (by show 50 < 60; omega) rfl put_s16))
theorem m59_48:M59 48 ls st H Q=M59 49 ls (.int 0::st) H Q:=w_con d3 rfl (by decide)
theorem m59_49:M59 49 ls (.int z::st) H Q=Q (some (.int z)) H:=w_iret d2 rfl
theorem m60_0:M60 0 (.val (.ref (b+1))::ls) st (put (b+1) e s A g) Q=if 0 < (s 15) then M60 7 (.val (.ref (b+1))::ls) st (put (b+1) e s A g) Q else M60 28 (.val (.ref (b+1))::ls) st (put (b+1) e s A g) Q:=(w_x d0 rfl).trans ((w_get d29 gf_302 put_o rfl).trans (w_ifN (dc (.ifCond .le 24,3)) (z_le (s 15)) rfl))
theorem m60_7:M60 7 (.val (.ref (b+1))::ls) st (put (b+1) e s A g) Q=if 40 < (s 15) then M60 28 (.val (.ref (b+1))::ls) st (put (b+1) e s A g) Q else M60 16 (.val (.ref (b+1))::ls) st (put (b+1) e s A g) Q:=(w_x d0 rfl).trans ((w_get d29 gf_302 put_o rfl).trans ((w_ki 40 (dc (.bipush 40,2)) rfl).trans (w_icmp (dc (.if_icmp .gt 15,3)) (i_gt (s 15) 40) rfl)))
theorem m60_16:M60 16 [.val (.ref (b+1)),.val (.int v1)] st (put (b+1) e s A g) Q=(inB (((s 15) - 1)) (A 24)∧M60 28 [.val (.ref (b+1)),.val (.int v1)] st (put (b+1) e s (ou A 24 (setA (A 24) (((s 15) - 1)) v1)) g) Q):=(w_x d0 rfl).trans ((w_get (dc (.getfield 82,3)) gf_82 put_o rfl).trans ((w_x d0 rfl).trans ((w_get d29 gf_302 put_o rfl).trans ((w_ki 1 d5 rfl).trans ((w_x d21 rfl).trans ((w_x d1 rfl).trans (w_ist d8 rfl put_a24 (by omega) rfl put_w24)))))))
theorem m60_28:M60 28 ls [] H Q=Q none H:=w_vret d24 rfl
theorem m61_0:M61 0 (a::.val (.int v1)::ls) st H Q=if v1=13 then M61 6 (a::.val (.int v1)::ls) st H Q else M61 21 (a::.val (.int v1)::ls) st H Q:=(w_x d1 rfl).trans ((w_ki 13 (dc (.bipush 13,2)) rfl).trans (w_icmpN (dc (.if_icmp .ne 18,3)) (i_ne v1 13) rfl))
theorem m61_6:M61 6 [.val (.ref (b+1)),c,.val (.int v2),.val (.int v3)] st H Q=if v2 < v3 then M61 12 [.val (.ref (b+1)),c,.val (.int v2),.val (.int v3)] (.ref (b+1)::st) H Q else M61 16 [.val (.ref (b+1)),c,.val (.int v2),.val (.int v3)] (.ref (b+1)::st) H Q:=(w_x d0 rfl).trans ((w_x d4 rfl).trans ((w_x d6 rfl).trans (w_icmpN (dc (.if_icmp .ge 7,3)) (i_ge v2 v3) rfl)))
theorem m61_12:M61 12 ls st H Q=M61 17 ls (.int 1::st) H Q:=(w_ki 1 d5 rfl).trans (w_x d14 rfl)
theorem m61_16:M61 16 ls st H Q=M61 17 ls (.int 0::st) H Q:=w_con d3 rfl (by decide)
theorem cr61_342:vR tables_1 dn y61 342=some (true,y62,prog_1_method_65_code,2,(some .int),1,0):=cp ⟨[.boolean],some .int⟩ rc_62 dn_62 dn_61
theorem m61_17:M61 17 ls [.int a0,.ref (b+1)] (put (b+1) e s A g) Q=M62 0 [.val (.ref (b+1)),.val (.int a0)] [] (put (b+1) e s A g) (fun v H1 => M61 20 ls (v.toList ++ []) H1 Q):=wv [.int a0] [] (dc (.invokevirtual 342,3)) cr61_342 rfl rfl rfl rfl rfl
theorem m61_20:M61 20 ls (.int z::st) H Q=Q (some (.int z)) H:=w_iret d2 rfl
theorem m61_21:M61 21 (a::.val (.int v1)::ls) st H Q=if v1=14 then M61 27 (a::.val (.int v1)::ls) st H Q else M61 42 (a::.val (.int v1)::ls) st H Q:=(w_x d1 rfl).trans ((w_ki 14 (dc (.bipush 14,2)) rfl).trans (w_icmpN (dc (.if_icmp .ne 18,3)) (i_ne v1 14) rfl))
theorem m61_27:M61 27 [.val (.ref (b+1)),c,.val (.int v2),.val (.int v3)] st H Q=if v3 < v2 then M61 37 [.val (.ref (b+1)),c,.val (.int v2),.val (.int v3)] (.ref (b+1)::st) H Q else M61 33 [.val (.ref (b+1)),c,.val (.int v2),.val (.int v3)] (.ref (b+1)::st) H Q:=(w_x d0 rfl).trans ((w_x d4 rfl).trans ((w_x d6 rfl).trans (w_icmp (dc (.if_icmp .gt 7,3)) (i_gt v2 v3) rfl)))
theorem m61_33:M61 33 ls st H Q=M61 38 ls (.int 1::st) H Q:=(w_ki 1 d5 rfl).trans (w_x d14 rfl)
theorem m61_37:M61 37 ls st H Q=M61 38 ls (.int 0::st) H Q:=w_con d3 rfl (by decide)
theorem m61_38:M61 38 ls [.int a0,.ref (b+1)] (put (b+1) e s A g) Q=M62 0 [.val (.ref (b+1)),.val (.int a0)] [] (put (b+1) e s A g) (fun v H1 => M61 41 ls (v.toList ++ []) H1 Q):=wv [.int a0] [] (dc (.invokevirtual 342,3)) cr61_342 rfl rfl rfl rfl rfl
theorem m61_41:M61 41 ls (.int z::st) H Q=Q (some (.int z)) H:=w_iret d2 rfl
theorem m61_42:M61 42 (a::.val (.int v1)::ls) st H Q=if v1=15 then M61 48 (a::.val (.int v1)::ls) st H Q else M61 63 (a::.val (.int v1)::ls) st H Q:=(w_x d1 rfl).trans ((w_ki 15 (dc (.bipush 15,2)) rfl).trans (w_icmpN (dc (.if_icmp .ne 18,3)) (i_ne v1 15) rfl))
theorem m61_48:M61 48 [.val (.ref (b+1)),c,.val (.int v2),.val (.int v3)] st H Q=if v3 < v2 then M61 54 [.val (.ref (b+1)),c,.val (.int v2),.val (.int v3)] (.ref (b+1)::st) H Q else M61 58 [.val (.ref (b+1)),c,.val (.int v2),.val (.int v3)] (.ref (b+1)::st) H Q:=(w_x d0 rfl).trans ((w_x d4 rfl).trans ((w_x d6 rfl).trans (w_icmpN (dc (.if_icmp .le 7,3)) (i_le v2 v3) rfl)))
theorem m61_54:M61 54 ls st H Q=M61 59 ls (.int 1::st) H Q:=(w_ki 1 d5 rfl).trans (w_x d14 rfl)
theorem m61_58:M61 58 ls st H Q=M61 59 ls (.int 0::st) H Q:=w_con d3 rfl (by decide)
theorem m61_59:M61 59 ls [.int a0,.ref (b+1)] (put (b+1) e s A g) Q=M62 0 [.val (.ref (b+1)),.val (.int a0)] [] (put (b+1) e s A g) (fun v H1 => M61 62 ls (v.toList ++ []) H1 Q):=wv [.int a0] [] (dc (.invokevirtual 342,3)) cr61_342 rfl rfl rfl rfl rfl
theorem m61_62:M61 62 ls (.int z::st) H Q=Q (some (.int z)) H:=w_iret d2 rfl
theorem m61_63:M61 63 (a::.val (.int v1)::ls) st H Q=if v1=16 then M61 69 (a::.val (.int v1)::ls) st H Q else M61 84 (a::.val (.int v1)::ls) st H Q:=(w_x d1 rfl).trans ((w_ki 16 (dc (.bipush 16,2)) rfl).trans (w_icmpN (dc (.if_icmp .ne 18,3)) (i_ne v1 16) rfl))
theorem m61_69:M61 69 [.val (.ref (b+1)),c,.val (.int v2),.val (.int v3)] st H Q=if v2 < v3 then M61 79 [.val (.ref (b+1)),c,.val (.int v2),.val (.int v3)] (.ref (b+1)::st) H Q else M61 75 [.val (.ref (b+1)),c,.val (.int v2),.val (.int v3)] (.ref (b+1)::st) H Q:=(w_x d0 rfl).trans ((w_x d4 rfl).trans ((w_x d6 rfl).trans (w_icmp (dc (.if_icmp .lt 7,3)) (i_lt v2 v3) rfl)))
theorem m61_75:M61 75 ls st H Q=M61 80 ls (.int 1::st) H Q:=(w_ki 1 d5 rfl).trans (w_x d14 rfl)
theorem m61_79:M61 79 ls st H Q=M61 80 ls (.int 0::st) H Q:=w_con d3 rfl (by decide)
theorem m61_80:M61 80 ls [.int a0,.ref (b+1)] (put (b+1) e s A g) Q=M62 0 [.val (.ref (b+1)),.val (.int a0)] [] (put (b+1) e s A g) (fun v H1 => M61 83 ls (v.toList ++ []) H1 Q):=wv [.int a0] [] (dc (.invokevirtual 342,3)) cr61_342 rfl rfl rfl rfl rfl
theorem m61_83:M61 83 ls (.int z::st) H Q=Q (some (.int z)) H:=w_iret d2 rfl
theorem m61_84:M61 84 (a::.val (.int v1)::ls) st H Q=if v1=17 then M61 90 (a::.val (.int v1)::ls) st H Q else M61 105 (a::.val (.int v1)::ls) st H Q:=(w_x d1 rfl).trans ((w_ki 17 (dc (.bipush 17,2)) rfl).trans (w_icmpN (dc (.if_icmp .ne 18,3)) (i_ne v1 17) rfl))
theorem m61_90:M61 90 [.val (.ref (b+1)),c,.val (.int v2),.val (.int v3)] st H Q=if v2=v3 then M61 96 [.val (.ref (b+1)),c,.val (.int v2),.val (.int v3)] (.ref (b+1)::st) H Q else M61 100 [.val (.ref (b+1)),c,.val (.int v2),.val (.int v3)] (.ref (b+1)::st) H Q:=(w_x d0 rfl).trans ((w_x d4 rfl).trans ((w_x d6 rfl).trans (w_icmpN (dc (.if_icmp .ne 7,3)) (i_ne v2 v3) rfl)))
theorem m61_96:M61 96 ls st H Q=M61 101 ls (.int 1::st) H Q:=(w_ki 1 d5 rfl).trans (w_x d14 rfl)
theorem m61_100:M61 100 ls st H Q=M61 101 ls (.int 0::st) H Q:=w_con d3 rfl (by decide)
theorem m61_101:M61 101 ls [.int a0,.ref (b+1)] (put (b+1) e s A g) Q=M62 0 [.val (.ref (b+1)),.val (.int a0)] [] (put (b+1) e s A g) (fun v H1 => M61 104 ls (v.toList ++ []) H1 Q):=wv [.int a0] [] (dc (.invokevirtual 342,3)) cr61_342 rfl rfl rfl rfl rfl
theorem m61_104:M61 104 ls (.int z::st) H Q=Q (some (.int z)) H:=w_iret d2 rfl
theorem m61_105:M61 105 (a::.val (.int v1)::ls) st H Q=if v1=18 then M61 111 (a::.val (.int v1)::ls) st H Q else M61 126 (a::.val (.int v1)::ls) st H Q:=(w_x d1 rfl).trans ((w_ki 18 (dc (.bipush 18,2)) rfl).trans (w_icmpN (dc (.if_icmp .ne 18,3)) (i_ne v1 18) rfl))
theorem m61_111:M61 111 [.val (.ref (b+1)),c,.val (.int v2),.val (.int v3)] st H Q=if v2=v3 then M61 121 [.val (.ref (b+1)),c,.val (.int v2),.val (.int v3)] (.ref (b+1)::st) H Q else M61 117 [.val (.ref (b+1)),c,.val (.int v2),.val (.int v3)] (.ref (b+1)::st) H Q:=(w_x d0 rfl).trans ((w_x d4 rfl).trans ((w_x d6 rfl).trans (w_icmp (dc (.if_icmp .eq 7,3)) (i_eq v2 v3) rfl)))
theorem m61_117:M61 117 ls st H Q=M61 122 ls (.int 1::st) H Q:=(w_ki 1 d5 rfl).trans (w_x d14 rfl)
theorem m61_121:M61 121 ls st H Q=M61 122 ls (.int 0::st) H Q:=w_con d3 rfl (by decide)
theorem m61_122:M61 122 ls [.int a0,.ref (b+1)] (put (b+1) e s A g) Q=M62 0 [.val (.ref (b+1)),.val (.int a0)] [] (put (b+1) e s A g) (fun v H1 => M61 125 ls (v.toList ++ []) H1 Q):=wv [.int a0] [] (dc (.invokevirtual 342,3)) cr61_342 rfl rfl rfl rfl rfl
theorem m61_125:M61 125 ls (.int z::st) H Q=Q (some (.int z)) H:=w_iret d2 rfl
theorem m61_126:M61 126 ls st H Q=M61 127 ls (.int 0::st) H Q:=w_con d3 rfl (by decide)
theorem m61_127:M61 127 ls (.int z::st) H Q=Q (some (.int z)) H:=w_iret d2 rfl
theorem m62_0:M62 0 [a,.val (.int v1)] st H Q=if v1=0 then M62 8 [a,.val (.int v1)] st H Q else M62 4 [a,.val (.int v1)] st H Q:=(w_x d1 rfl).trans (w_if (dc (.ifCond .eq 7,3)) (z_eq v1) rfl)
theorem m62_4:M62 4 ls st H Q=M62 9 ls (.int 1::st) H Q:=(w_ki 1 d5 rfl).trans (w_x d14 rfl)
theorem m62_8:M62 8 ls st H Q=M62 9 ls (.int 0::st) H Q:=w_con d3 rfl (by decide)
theorem m62_9:M62 9 ls (.int z::st) H Q=Q (some (.int z)) H:=w_iret d2 rfl
theorem m63_0:M63 0 (.val (.ref (b+1))::c::d::.val (.int v3)::ls) st (put (b+1) e s A g) Q=(inB (v3 &&& 7) (A 0)∧M63 9 (.val (.ref (b+1))::c::d::.val (.int v3)::ls) (.int (getA (A 0) (v3 &&& 7))::st) (put (b+1) e s A g) Q):=(w_x d0 rfl).trans ((w_get d26 gf_7 put_o rfl).trans ((w_x d6 rfl).trans ((w_ki 7 d22 rfl).trans ((w_x (dc (.iand,1)) rfl).trans (w_ild d7 rfl put_a0)))))
theorem m63_9u:M63 9 [a,c,d,f,.unset] ((.int v)::st) H Q=M63 11 [a,c,d,f,.val (.int v)] st H Q:=ws 4 d23 rfl rfl rfl rfl rfl rfl
theorem m63_11:M63 11 (a::.val (.int v1)::ls) st H Q=if v1=1 then M63 16 (a::.val (.int v1)::ls) st H Q else M63 26 (a::.val (.int v1)::ls) st H Q:=(w_x d1 rfl).trans ((w_ki 1 d5 rfl).trans (w_icmpN (dc (.if_icmp .ne 13,3)) (i_ne v1 1) rfl))
theorem m63_16:M63 16 (.val (.ref (b+1))::c::.val (.int v2)::.val (.int v3)::ls) st (put (b+1) e s A g) Q=(inB v2 (A 0)∧M63 23 (.val (.ref (b+1))::c::.val (.int v2)::.val (.int v3)::ls) st (put (b+1) e s (ou A 0 (setA (A 0) v2 v3)) g) Q):=(w_x d0 rfl).trans ((w_get d26 gf_7 put_o rfl).trans ((w_x d4 rfl).trans ((w_x d6 rfl).trans (w_ist d8 rfl put_a0 (by omega) rfl put_w0))))
theorem m63_23:M63 23 ls st H Q=M63 140 ls st H Q:=w_x (dc (.goto 117,3)) rfl
theorem m63_26:M63 26 (a::.val (.int v1)::ls) st H Q=if v1=2 then M63 31 (a::.val (.int v1)::ls) st H Q else M63 49 (a::.val (.int v1)::ls) st H Q:=(w_x d1 rfl).trans ((w_ki 2 d20 rfl).trans (w_icmpN (dc (.if_icmp .ne 21,3)) (i_ne v1 2) rfl))
theorem m63_31:M63 31 (.val (.ref (b+1))::c::.val (.int v2)::ls) st (put (b+1) e s A g) Q=(inB v2 (A 0)∧M63 42 (.val (.ref (b+1))::c::.val (.int v2)::ls) (.int (getA (A 0) v2)::.int v2::.ref ((b+1)+1)::st) (put (b+1) e s A g) Q):=(w_x d0 rfl).trans ((w_get d26 gf_7 put_o rfl).trans ((w_x d4 rfl).trans ((w_x d0 rfl).trans ((w_get d26 gf_7 put_o rfl).trans ((w_x d4 rfl).trans (w_ild d7 rfl put_a0))))))
theorem m63_42:M63 42 [a,c,d,f,.val (.int v)] st H Q=M63 44 [a,c,d,f,.val (.int v)] (.int v::st) H Q:=w_x d11 rfl
theorem m63_44:M63 44 ls (.int y::.int x::st) H Q=M63 45 ls (.int (x+y)::st) H Q:=w_x d9 rfl
theorem m63_45:M63 45 ls (.int v::.int j::.ref ((b+1)+1)::st) (put (b+1) e s A g) Q=(inB j (A 0)∧M63 46 ls st (put (b+1) e s (ou A 0 (setA (A 0) j v)) g) Q):=w_ist d8 rfl put_a0 (by omega) rfl put_w0
theorem m63_46:M63 46 ls st H Q=M63 140 ls st H Q:=w_x (dc (.goto 94,3)) rfl
theorem m63_49:M63 49 (a::.val (.int v1)::ls) st H Q=if v1=3 then M63 54 (a::.val (.int v1)::ls) st H Q else M63 72 (a::.val (.int v1)::ls) st H Q:=(w_x d1 rfl).trans ((w_ki 3 d15 rfl).trans (w_icmpN (dc (.if_icmp .ne 21,3)) (i_ne v1 3) rfl))
theorem m63_54:M63 54 (.val (.ref (b+1))::c::.val (.int v2)::ls) st (put (b+1) e s A g) Q=(inB v2 (A 0)∧M63 65 (.val (.ref (b+1))::c::.val (.int v2)::ls) (.int (getA (A 0) v2)::.int v2::.ref ((b+1)+1)::st) (put (b+1) e s A g) Q):=(w_x d0 rfl).trans ((w_get d26 gf_7 put_o rfl).trans ((w_x d4 rfl).trans ((w_x d0 rfl).trans ((w_get d26 gf_7 put_o rfl).trans ((w_x d4 rfl).trans (w_ild d7 rfl put_a0))))))
theorem m63_65:M63 65 [a,c,d,f,.val (.int v)] st H Q=M63 67 [a,c,d,f,.val (.int v)] (.int v::st) H Q:=w_x d11 rfl
theorem m63_67:M63 67 ls (.int y::.int x::st) H Q=M63 68 ls (.int (x - y)::st) H Q:=w_x d21 rfl
theorem m63_68:M63 68 ls (.int v::.int j::.ref ((b+1)+1)::st) (put (b+1) e s A g) Q=(inB j (A 0)∧M63 69 ls st (put (b+1) e s (ou A 0 (setA (A 0) j v)) g) Q):=w_ist d8 rfl put_a0 (by omega) rfl put_w0
theorem m63_69:M63 69 ls st H Q=M63 140 ls st H Q:=w_x (dc (.goto 71,3)) rfl
theorem m63_72:M63 72 (a::.val (.int v1)::ls) st H Q=if v1=4 then M63 77 (a::.val (.int v1)::ls) st H Q else M63 94 (a::.val (.int v1)::ls) st H Q:=(w_x d1 rfl).trans ((w_ki 4 d12 rfl).trans (w_icmpN (dc (.if_icmp .ne 20,3)) (i_ne v1 4) rfl))
theorem m63_77:M63 77 (.val (.ref (b+1))::c::.val (.int v2)::ls) st (put (b+1) e s A g) Q=(inB v2 (A 0)∧M63 88 (.val (.ref (b+1))::c::.val (.int v2)::ls) (.int (getA (A 0) v2)::.int v2::.ref ((b+1)+1)::st) (put (b+1) e s A g) Q):=(w_x d0 rfl).trans ((w_get d26 gf_7 put_o rfl).trans ((w_x d4 rfl).trans ((w_x d0 rfl).trans ((w_get d26 gf_7 put_o rfl).trans ((w_x d4 rfl).trans (w_ild d7 rfl put_a0))))))
theorem m63_88:M63 88 (a::c::d::.val (.int v)::ls) st H Q=M63 89 (a::c::d::.val (.int v)::ls) (.int v::st) H Q:=w_x d6 rfl
theorem m63_89:M63 89 ls (.int y::.int x::st) H Q=M63 90 ls (.int (x+y)::st) H Q:=w_x d9 rfl
theorem m63_90:M63 90 ls (.int v::.int j::.ref ((b+1)+1)::st) (put (b+1) e s A g) Q=(inB j (A 0)∧M63 91 ls st (put (b+1) e s (ou A 0 (setA (A 0) j v)) g) Q):=w_ist d8 rfl put_a0 (by omega) rfl put_w0
theorem m63_91:M63 91 ls st H Q=M63 140 ls st H Q:=w_x (dc (.goto 49,3)) rfl
theorem m63_94:M63 94 (a::.val (.int v1)::ls) st H Q=if v1=5 then M63 99 (a::.val (.int v1)::ls) st H Q else M63 118 (a::.val (.int v1)::ls) st H Q:=(w_x d1 rfl).trans ((w_ki 5 (dc (.iconst 5,1)) rfl).trans (w_icmpN (dc (.if_icmp .ne 22,3)) (i_ne v1 5) rfl))
theorem m63_99:M63 99 [.val (.ref (b+1)),c,.val (.int v2),f,.val (.int v4)] st (put (b+1) e s A g) Q=(inB (v4 &&& 31) (A 1)∧M63 114 [.val (.ref (b+1)),c,.val (.int v2),f,.val (.int v4)] (.int (getA (A 1) (v4 &&& 31))::.int v2::.ref ((b+1)+1)::st) (put (b+1) e s A g) Q):=(w_x d0 rfl).trans ((w_get d26 gf_7 put_o rfl).trans ((w_x d4 rfl).trans ((w_x d0 rfl).trans ((w_get (dc (.getfield 13,3)) gf_13 put_o rfl).trans ((w_x d11 rfl).trans ((w_ki 31 d27 rfl).trans ((w_x (dc (.iand,1)) rfl).trans (w_ild d7 rfl put_a1))))))))
theorem m63_114:M63 114 ls (.int v::.int j::.ref ((b+1)+1)::st) (put (b+1) e s A g) Q=(inB j (A 0)∧M63 115 ls st (put (b+1) e s (ou A 0 (setA (A 0) j v)) g) Q):=w_ist d8 rfl put_a0 (by omega) rfl put_w0
theorem m63_115:M63 115 ls st H Q=M63 140 ls st H Q:=w_x (dc (.goto 25,3)) rfl
theorem m63_118:M63 118 (a::.val (.int v1)::ls) st H Q=if v1=6 then M63 124 (a::.val (.int v1)::ls) st H Q else M63 140 (a::.val (.int v1)::ls) st H Q:=(w_x d1 rfl).trans ((w_ki 6 (dc (.bipush 6,2)) rfl).trans (w_icmpN (dc (.if_icmp .ne 19,3)) (i_ne v1 6) rfl))
theorem m63_124:M63 124 [.val (.ref (b+1)),c,.val (.int v2),f,.val (.int v4)] st (put (b+1) e s A g) Q=(inB v2 (A 0)∧M63 139 [.val (.ref (b+1)),c,.val (.int v2),f,.val (.int v4)] (.int (getA (A 0) v2)::.int (v4 &&& 31)::.ref ((b+1)+2)::st) (put (b+1) e s A g) Q):=(w_x d0 rfl).trans ((w_get (dc (.getfield 13,3)) gf_13 put_o rfl).trans ((w_x d11 rfl).trans ((w_ki 31 d27 rfl).trans ((w_x (dc (.iand,1)) rfl).trans ((w_x d0 rfl).trans ((w_get d26 gf_7 put_o rfl).trans ((w_x d4 rfl).trans (w_ild d7 rfl put_a0))))))))
theorem m63_139:M63 139 ls (.int v::.int j::.ref ((b+1)+2)::st) (put (b+1) e s A g) Q=(inB j (A 1)∧M63 140 ls st (put (b+1) e s (ou A 1 (setA (A 1) j v)) g) Q):=w_ist d8 rfl put_a1 (by omega) rfl put_w1
theorem m63_140:M63 140 ls [] H Q=Q none H:=w_vret d24 rfl
theorem m64_0:M64 0 [a,c,d,.val (.int v3)] st H Q=if v3=0 then M64 4 [a,c,d,.val (.int v3)] st H Q else M64 11 [a,c,d,.val (.int v3)] st H Q:=(w_x d6 rfl).trans (w_ifN (dc (.ifCond .ne 10,3)) (z_ne v3) rfl)
theorem pf64_259:pfR tables_1 y64.cls y64.name 259=some ("AgentExprDbg", 50,.int):=by decide +kernel
theorem m64_4:M64 4 (.val (.ref (b+1))::ls) st (put (b+1) e s A g) Q=M64 9 (.val (.ref (b+1))::ls) st (put (b+1) e (ou s 16 1) A g) Q:=(w_x d0 rfl).trans ((w_ki 1 d5 rfl).trans (w_put (dc (.putfield 259,3)) pf64_259 put_o (Nat.succ_le_succ (Nat.zero_le _)) (by show 50 < 60; omega) rfl put_s16))
theorem m64_9:M64 9 ls st H Q=M64 10 ls (.int 0::st) H Q:=w_con d3 rfl (by decide)
theorem m64_10:M64 10 ls (.int z::st) H Q=Q (some (.int z)) H:=w_iret d2 rfl
theorem m64_11:M64 11 (a::.val (.int v1)::ls) st H Q=if v1=9 then M64 17 (a::.val (.int v1)::ls) st H Q else M64 21 (a::.val (.int v1)::ls) st H Q:=(w_x d1 rfl).trans ((w_ki 9 (dc (.bipush 9,2)) rfl).trans (w_icmpN (dc (.if_icmp .ne 7,3)) (i_ne v1 9) rfl))
theorem m64_17:M64 17 [a,c,.val (.int v2),.val (.int v3)] st H Q=M64 19 [a,c,.val (.int v2),.val (.int v3)] (.int v3::.int v2::st) H Q:=(w_x d4 rfl).trans (w_x d6 rfl)
theorem m64_19:M64 19 ls (.int y::.int x::st) H Q=(y ≠ 0∧M64 20 ls (.int (x / y)::st) H Q):=w_div (f:=fun x y => x / y) (dc (.idiv,1)) (fun _ => rfl) rfl rfl
theorem m64_20:M64 20 ls (.int z::st) H Q=Q (some (.int z)) H:=w_iret d2 rfl
theorem m64_21:M64 21 [a,c,.val (.int v2),.val (.int v3)] st H Q=M64 23 [a,c,.val (.int v2),.val (.int v3)] (.int v3::.int v2::st) H Q:=(w_x d4 rfl).trans (w_x d6 rfl)
theorem m64_23:M64 23 ls (.int y::.int x::st) H Q=(y ≠ 0∧M64 24 ls (.int (x % y)::st) H Q):=w_div (f:=fun x y => x % y) (dc (.irem,1)) (fun _ => rfl) rfl rfl
theorem m64_24:M64 24 ls (.int z::st) H Q=Q (some (.int z)) H:=w_iret d2 rfl
theorem m65_0:M65 0 [a,.val (.int v)] st H Q=M65 1 [a,.val (.int v)] (.int v::st) H Q:=w_x d1 rfl
theorem m65_1:M65 1 (.val (.ref r)::ls) st H Q=M65 2 (.val (.ref r)::ls) (.ref r::st) H Q:=w_x d0 rfl
theorem m65_2:M65 2 ls (.ref 0::st) ((.array .int,sc.map Value.int)::R) Q=M65 3 ls (.int sc.length.toInt32::st) ((.array .int,sc.map Value.int)::R) Q:=by exact (w_len (dc (.arraylength,1)) rfl).trans (by rw [List.length_map]; rfl)
theorem m65_2p:M65 2 ls (.ref 0::st) (put (b+1) ((.array .int,sc.map Value.int)::pre) s A post) Q=M65 3 ls (.int sc.length.toInt32::st) (put (b+1) ((.array .int,sc.map Value.int)::pre) s A post) Q:=by exact (w_len (dc (.arraylength,1)) rfl).trans (by rw [List.length_map]; rfl)
theorem m65_3:M65 3 ls (.int y::.int x::st) H Q=if x < y then M65 6 ls st H Q else M65 12 ls st H Q:=w_icmpN (dc (.if_icmp .ge 9,3)) (i_ge x y) rfl
theorem m65_6:M65 6 (.val (.ref r)::ls) st H Q=M65 7 (.val (.ref r)::ls) (.ref r::st) H Q:=w_x d0 rfl
theorem m65_7:M65 7 [a,.val (.int v)] st H Q=M65 8 [a,.val (.int v)] (.int v::st) H Q:=w_x d1 rfl
theorem m65_8:M65 8 ls (.int j::.ref 0::st) ((.array .int,sc.map Value.int)::R) Q=(inB j sc∧M65 9 ls (.int (getA sc j)::st) ((.array .int,sc.map Value.int)::R) Q):=w_ild d7 rfl rfl
theorem m65_8p:M65 8 ls (.int j::.ref 0::st) (put (b+1) ((.array .int,sc.map Value.int)::pre) s A post) Q=(inB j sc∧M65 9 ls (.int (getA sc j)::st) (put (b+1) ((.array .int,sc.map Value.int)::pre) s A post) Q):=w_ild d7 rfl rfl
theorem m65_9:M65 9 ls st H Q=M65 13 ls st H Q:=w_x d14 rfl
theorem m65_12:M65 12 ls st H Q=M65 13 ls (.int 0::st) H Q:=w_con d3 rfl (by decide)
theorem m65_13:M65 13 ls (.int z::st) H Q=Q (some (.int z)) H:=w_iret d2 rfl
theorem m66_0:M66 0 (.val (.int v0)::.val (.int v1)::ls) st H Q=M66 2 (.val (.int v0)::.val (.int v1)::ls) (.int v1::.int v0::st) H Q:=(w_x (dc (.iload_n 0,1)) rfl).trans (w_x d1 rfl)
theorem m66_2:M66 2 ls (.int y::.int x::st) H Q=(y ≠ 0∧M66 3 ls (.int (x % y)::st) H Q):=w_div (f:=fun x y => x % y) (dc (.irem,1)) (fun _ => rfl) rfl rfl
theorem m66_3u:M66 3 [a,c,.unset] ((.int v)::st) H Q=M66 4 [a,c,.val (.int v)] st H Q:=ws 2 d25 rfl rfl rfl rfl rfl rfl
theorem m66_4:M66 4 [a,c,.val (.int v2)] st H Q=if v2 < 0 then M66 8 [a,c,.val (.int v2)] st H Q else M66 14 [a,c,.val (.int v2)] st H Q:=(w_x d4 rfl).trans (w_ifN (dc (.ifCond .ge 9,3)) (z_ge v2) rfl)
theorem m66_8:M66 8 [a,.val (.int v1),.val (.int v2)] st H Q=M66 15 [a,.val (.int v1),.val (.int v2)] (.int (v2+v1)::st) H Q:=(w_x d4 rfl).trans ((w_x d1 rfl).trans ((w_x d9 rfl).trans (w_x d14 rfl)))
theorem m66_14:M66 14 [a,c,.val (.int v)] st H Q=M66 15 [a,c,.val (.int v)] (.int v::st) H Q:=w_x d4 rfl
theorem m66_15:M66 15 ls (.int z::st) H Q=Q (some (.int z)) H:=w_iret d2 rfl
theorem m67_0:M67 0 ls st H Q=M67 3 ls (.ref H.length::st) (H ++ [(.object "AgentExprDbg",D0)]) Q:=(w_new (C := "AgentExprDbg") at_0 (by rw [hNew,show rCls tables_1 y67.cls 7=some "AgentExprDbg" from by decide +kernel]; dsimp only; rw [if_pos (by decide +kernel)])).trans (by rw [lay0]; rfl)
theorem m67_3:M67 3 ls ((.ref r)::st) H Q=M67 4 ls ((.ref r)::(.ref r)::st) H Q:=w_x at_3 rfl
theorem m67_4:M67 4 (.val (.ref r)::ls) st H Q=M67 5 (.val (.ref r)::ls) (.ref r::st) H Q:=w_x at_4 rfl
theorem m67_5:M67 5 ls st H Q=M67 6 ls (.int 0::st) H Q:=w_con at_5 rfl (by decide)
theorem cr67_9:sR tables_1 dn y67 9=some (y65,method_2_code,2,(some .int),2,157):=cs ⟨[.array .int,.int],some .int⟩ rc_65 dn_65 dn_67
theorem m67_6 (a0:Nat) (a1:Int32) (u0:Nat) (u1:Nat):M67 6 ls [.int a1,.ref a0,.ref u0,.ref u1] H Q=M65 0 [.val (.ref a0),.val (.int a1)] [] H (fun v H1 => M67 9 ls (v.toList ++ [.ref u0,.ref u1]) H1 Q):=wt [.int a1,.ref a0] [.ref u0,.ref u1] at_6 cr67_9 rfl rfl rfl rfl
theorem m67_9:M67 9 (.val (.ref r)::ls) st H Q=M67 10 (.val (.ref r)::ls) (.ref r::st) H Q:=w_x at_9 rfl
theorem m67_10:M67 10 ls st H Q=M67 11 ls (.int 1::st) H Q:=w_con at_10 rfl (by decide)
theorem m67_11 (a0:Nat) (a1:Int32) (u0:Int32) (u1:Nat) (u2:Nat):M67 11 ls [.int a1,.ref a0,.int u0,.ref u1,.ref u2] H Q=M65 0 [.val (.ref a0),.val (.int a1)] [] H (fun v H1 => M67 14 ls (v.toList ++ [.int u0,.ref u1,.ref u2]) H1 Q):=wt [.int a1,.ref a0] [.int u0,.ref u1,.ref u2] at_11 cr67_9 rfl rfl rfl rfl
theorem cr67_15:nR tables_1 dn y67 15=some (y0,prog_1_method_1_code,5,none,2,142):=nR_of (cR_of (by decide +kernel) rc_0 dn_0 dn_67 (sig:=⟨[.int,.int],none⟩) (by decide +kernel) (by decide +kernel) rfl rfl) rfl (by decide +kernel) rfl
theorem cr67_15_o:oR tables_1 dn y67 15=none:=by decide +kernel
theorem m67_14 (a0:Int32) (a1:Int32) (u0:Nat):M67 14 ls [.int a1,.int a0,.ref r,.ref u0] H Q=M0 0 [.val (.ref r),.val (.int a0),.val (.int a1),.unset,.unset] [] H (fun v H1 => M67 17 ls (v.toList ++ [.ref u0]) H1 Q):=w_spec (as:=[.int a1,.int a0]) (rest:=[.ref u0]) (a:=r) at_14 cr67_15_o cr67_15 rfl (Nat.le_of_ble_eq_true rfl) (by show 3≤5; omega) rfl
theorem m67_17u:M67 17 (a::.unset::ls) ((.ref r)::st) H Q=M67 18 (a::.val (.ref r)::ls) st H Q:=w_st (i:=1) (p:=Value.isRef) at_17 rfl rfl rfl rfl rfl rfl
theorem m67_18:M67 18 ls st H Q=M67 21 ls (.ref H.length::st) (H ++ [(.object "AgentExprDbg",D0)]) Q:=(w_new (C := "AgentExprDbg") at_18 (by rw [hNew,show rCls tables_1 y67.cls 7=some "AgentExprDbg" from by decide +kernel]; dsimp only; rw [if_pos (by decide +kernel)])).trans (by rw [lay0]; rfl)
theorem m67_21:M67 21 ls ((.ref r)::st) H Q=M67 22 ls ((.ref r)::(.ref r)::st) H Q:=w_x at_21 rfl
theorem m67_22:M67 22 ls st H Q=M67 24 ls (.int 0::.int 2::st) H Q:=(w_ki 2 at_22 rfl).trans (w_ki 0 at_23 rfl)
theorem m67_24 (a0:Int32) (a1:Int32) (u0:Nat):M67 24 ls [.int a1,.int a0,.ref r,.ref u0] H Q=M0 0 [.val (.ref r),.val (.int a0),.val (.int a1),.unset,.unset] [] H (fun v H1 => M67 27 ls (v.toList ++ [.ref u0]) H1 Q):=w_spec (as:=[.int a1,.int a0]) (rest:=[.ref u0]) (a:=r) at_24 cr67_15_o cr67_15 rfl (Nat.le_of_ble_eq_true rfl) (by show 3≤5; omega) rfl
theorem m67_27u:M67 27 (a::c::.unset::ls) ((.ref r)::st) H Q=M67 28 (a::c::.val (.ref r)::ls) st H Q:=w_st (i:=2) (p:=Value.isRef) at_27 rfl rfl rfl rfl rfl rfl
theorem m67_28:M67 28 (a::c::d::.unset::ls) st H Q=M67 30 (a::c::d::.val (.int 2)::ls) st H Q:=(w_ki 2 at_28 rfl).trans (ws 3 at_29 rfl rfl rfl rfl rfl rfl)
theorem m67_30:M67 30 (a::c::d::.val (.int v)::ls) st H Q=M67 31 (a::c::d::.val (.int v)::ls) (.int v::st) H Q:=w_x at_30 rfl
theorem m67_31:M67 31 (.val (.ref r)::ls) st H Q=M67 32 (.val (.ref r)::ls) (.ref r::st) H Q:=w_x at_31 rfl
theorem m67_32:M67 32 ls (.ref 0::st) ((.array .int,sc.map Value.int)::R) Q=M67 33 ls (.int sc.length.toInt32::st) ((.array .int,sc.map Value.int)::R) Q:=by exact (w_len at_32 rfl).trans (by rw [List.length_map]; rfl)
theorem m67_32p:M67 32 ls (.ref 0::st) (put (b+1) ((.array .int,sc.map Value.int)::pre) s A post) Q=M67 33 ls (.int sc.length.toInt32::st) (put (b+1) ((.array .int,sc.map Value.int)::pre) s A post) Q:=by exact (w_len at_32 rfl).trans (by rw [List.length_map]; rfl)
theorem m67_33:M67 33 ls (.int y::.int x::st) H Q=if x < y then M67 36 ls st H Q else M67 1802 ls st H Q:=w_icmpN at_33 (i_ge x y) rfl
theorem m67_36:M67 36 (.val (.ref r)::ls) st H Q=M67 37 (.val (.ref r)::ls) (.ref r::st) H Q:=w_x at_36 rfl
theorem m67_37:M67 37 (a::c::d::.val (.int v3)::ls) st H Q=M67 41 (a::c::d::.val (.int (v3+1))::ls) (.int v3::st) H Q:=(w_x at_37 rfl).trans (w_iinc at_38 rfl (by decide) rfl)
theorem m67_41 (a0:Nat) (a1:Int32):M67 41 ls [.int a1,.ref a0] H Q=M65 0 [.val (.ref a0),.val (.int a1)] [] H (fun v H1 => M67 44 ls (v.toList ++ []) H1 Q):=wt [.int a1,.ref a0] [] at_41 cr67_9 rfl rfl rfl rfl
theorem m67_44:M67 44 ls st H Q=M67 46 ls (.int 8::st) H Q:=w_con at_44 rfl (by decide)
theorem cr67_18:sR tables_1 dn y67 18=some (y66,method_3_code,3,(some .int),2,156):=cs ⟨[.int,.int],some .int⟩ rc_66 dn_66 dn_67
theorem m67_46:M67 46 ls [.int a1,.int a0] H Q=M66 0 [.val (.int a0),.val (.int a1),.unset] [] H (fun v H1 => M67 49 ls (v.toList ++ []) H1 Q):=wt [.int a1,.int a0] [] at_46 cr67_18 rfl rfl rfl rfl
theorem m67_49g (h:okS k):M67 49 (a::c::d::f::k::ls) ((.int v)::st) H Q=M67 51 (a::c::d::f::.val (.int v)::ls) st H Q:=by rcases h with rfl | ⟨z,rfl⟩ <;> exact ws 4 at_49 rfl rfl rfl rfl rfl rfl
theorem m67_51:M67 51 (.val (.ref r)::ls) st H Q=M67 52 (.val (.ref r)::ls) (.ref r::st) H Q:=w_x at_51 rfl
theorem m67_52:M67 52 (a::c::d::.val (.int v3)::ls) st H Q=M67 56 (a::c::d::.val (.int (v3+1))::ls) (.int v3::st) H Q:=(w_x at_52 rfl).trans (w_iinc at_53 rfl (by decide) rfl)
theorem m67_56 (a0:Nat) (a1:Int32):M67 56 ls [.int a1,.ref a0] H Q=M65 0 [.val (.ref a0),.val (.int a1)] [] H (fun v H1 => M67 59 ls (v.toList ++ []) H1 Q):=wt [.int a1,.ref a0] [] at_56 cr67_9 rfl rfl rfl rfl
theorem m67_59g (h:okS l):M67 59 (a::c::d::f::k::l::ls) ((.int v)::st) H Q=M67 61 (a::c::d::f::k::.val (.int v)::ls) st H Q:=by rcases h with rfl | ⟨z,rfl⟩ <;> exact ws 5 at_59 rfl rfl rfl rfl rfl rfl
theorem m67_61:M67 61 (a::c::d::f::.val (.int v4)::ls) st H Q=if v4=0 then M67 66 (a::c::d::f::.val (.int v4)::ls) st H Q else M67 186 (a::c::d::f::.val (.int v4)::ls) st H Q:=(w_x at_61 rfl).trans (w_ifN at_63 (z_ne v4) rfl)
theorem m67_66:M67 66 (a::c::d::f::k::.val (.int v5)::ls) st H Q=M67 70 (a::c::d::f::k::.val (.int v5)::ls) (.int 8::.int v5::st) H Q:=(w_x at_66 rfl).trans (w_ki 8 at_68 rfl)
theorem m67_70:M67 70 ls [.int a1,.int a0] H Q=M66 0 [.val (.int a0),.val (.int a1),.unset] [] H (fun v H1 => M67 73 ls (v.toList ++ []) H1 Q):=wt [.int a1,.int a0] [] at_70 cr67_18 rfl rfl rfl rfl
theorem m67_73g (h:okS m):M67 73 (a::c::d::f::k::l::m::ls) ((.int v)::st) H Q=M67 75 (a::c::d::f::k::l::.val (.int v)::ls) st H Q:=by rcases h with rfl | ⟨z,rfl⟩ <;> exact ws 6 at_73 rfl rfl rfl rfl rfl rfl
theorem m67_75:M67 75 (.val (.ref r)::ls) st H Q=M67 76 (.val (.ref r)::ls) (.ref r::st) H Q:=w_x at_75 rfl
theorem m67_76:M67 76 (a::c::d::.val (.int v3)::ls) st H Q=M67 80 (a::c::d::.val (.int (v3+1))::ls) (.int v3::st) H Q:=(w_x at_76 rfl).trans (w_iinc at_77 rfl (by decide) rfl)
theorem m67_80 (a0:Nat) (a1:Int32):M67 80 ls [.int a1,.ref a0] H Q=M65 0 [.val (.ref a0),.val (.int a1)] [] H (fun v H1 => M67 83 ls (v.toList ++ []) H1 Q):=wt [.int a1,.ref a0] [] at_80 cr67_9 rfl rfl rfl rfl
theorem m67_83g (h:okS n):M67 83 (a::c::d::f::k::l::m::n::ls) ((.int v)::st) H Q=M67 85 (a::c::d::f::k::l::m::.val (.int v)::ls) st H Q:=by rcases h with rfl | ⟨z,rfl⟩ <;> exact ws 7 at_83 rfl rfl rfl rfl rfl rfl
theorem m67_85:M67 85 (a::c::d::f::k::l::.val (.int v6)::ls) st H Q=if v6=1 then M67 97 (a::c::d::f::k::l::.val (.int v6)::ls) st H Q else M67 91 (a::c::d::f::k::l::.val (.int v6)::ls) st H Q:=(w_x at_85 rfl).trans ((w_ki 1 at_87 rfl).trans (w_icmp at_88 (i_eq v6 1) rfl))
theorem m67_91:M67 91 (a::c::d::f::k::l::.val (.int v6)::ls) st H Q=if v6=4 then M67 97 (a::c::d::f::k::l::.val (.int v6)::ls) st H Q else M67 109 (a::c::d::f::k::l::.val (.int v6)::ls) st H Q:=(w_x at_91 rfl).trans ((w_ki 4 at_93 rfl).trans (w_icmpN at_94 (i_ne v6 4) rfl))
theorem m67_97:M67 97 (a::c::d::f::k::l::m::.val (.int v7)::ls) st H Q=M67 101 (a::c::d::f::k::l::m::.val (.int v7)::ls) (.int 11::.int v7::st) H Q:=(w_x at_97 rfl).trans (w_ki 11 at_99 rfl)
theorem m67_101:M67 101 ls [.int a1,.int a0] H Q=M66 0 [.val (.int a0),.val (.int a1),.unset] [] H (fun v H1 => M67 104 ls (v.toList ++ []) H1 Q):=wt [.int a1,.int a0] [] at_101 cr67_18 rfl rfl rfl rfl
theorem m67_104:M67 104 ls st H Q=M67 105 ls (.int 5::st) H Q:=w_con at_104 rfl (by decide)
theorem m67_105:M67 105 ls (.int y::.int x::st) H Q=M67 106 ls (.int (x - y)::st) H Q:=w_x at_105 rfl
theorem m67_106:M67 106 ls st H Q=M67 133 ls st H Q:=w_x at_106 rfl
theorem m67_109:M67 109 (a::c::d::f::k::l::.val (.int v6)::ls) st H Q=if v6=7 then M67 116 (a::c::d::f::k::l::.val (.int v6)::ls) st H Q else M67 126 (a::c::d::f::k::l::.val (.int v6)::ls) st H Q:=(w_x at_109 rfl).trans ((w_ki 7 at_111 rfl).trans (w_icmpN at_113 (i_ne v6 7) rfl))
theorem m67_116:M67 116 (a::c::d::f::k::l::m::.val (.int v7)::ls) st H Q=M67 120 (a::c::d::f::k::l::m::.val (.int v7)::ls) (.int 32::.int v7::st) H Q:=(w_x at_116 rfl).trans (w_ki 32 at_118 rfl)
theorem m67_120:M67 120 ls [.int a1,.int a0] H Q=M66 0 [.val (.int a0),.val (.int a1),.unset] [] H (fun v H1 => M67 123 ls (v.toList ++ []) H1 Q):=wt [.int a1,.int a0] [] at_120 cr67_18 rfl rfl rfl rfl
theorem m67_123:M67 123 ls st H Q=M67 133 ls st H Q:=w_x at_123 rfl
theorem m67_126:M67 126 (a::c::d::f::k::l::m::.val (.int v7)::ls) st H Q=M67 130 (a::c::d::f::k::l::m::.val (.int v7)::ls) (.int 8::.int v7::st) H Q:=(w_x at_126 rfl).trans (w_ki 8 at_128 rfl)
theorem m67_130:M67 130 ls [.int a1,.int a0] H Q=M66 0 [.val (.int a0),.val (.int a1),.unset] [] H (fun v H1 => M67 133 ls (v.toList ++ []) H1 Q):=wt [.int a1,.int a0] [] at_130 cr67_18 rfl rfl rfl rfl
theorem m67_133g (h:okS o):M67 133 (a::c::d::f::k::l::m::n::o::ls) ((.int v)::st) H Q=M67 135 (a::c::d::f::k::l::m::n::.val (.int v)::ls) st H Q:=by rcases h with rfl | ⟨z,rfl⟩ <;> exact ws 8 at_133 rfl rfl rfl rfl rfl rfl
theorem m67_135:M67 135 (a::c::d::f::k::.val (.int v5)::ls) st H Q=M67 141 (a::c::d::f::k::.val (.int v5)::ls) (.int 32::.int (v5 >>> (3 &&& 31))::st) H Q:=(w_x at_135 rfl).trans ((w_ki 3 at_137 rfl).trans ((w_x at_138 rfl).trans (w_ki 32 at_139 rfl)))
theorem m67_141:M67 141 ls [.int a1,.int a0] H Q=M66 0 [.val (.int a0),.val (.int a1),.unset] [] H (fun v H1 => M67 144 ls (v.toList ++ []) H1 Q):=wt [.int a1,.int a0] [] at_141 cr67_18 rfl rfl rfl rfl
theorem m67_144g (h:okS p):M67 144 (a::c::d::f::k::l::m::n::o::p::ls) ((.int v)::st) H Q=M67 146 (a::c::d::f::k::l::m::n::o::.val (.int v)::ls) st H Q:=by rcases h with rfl | ⟨z,rfl⟩ <;> exact ws 9 at_144 rfl rfl rfl rfl rfl rfl
theorem m67_146:M67 146 (a::c::d::f::k::l::m::.val (.int v7)::ls) st H Q=M67 152 (a::c::d::f::k::l::m::.val (.int v7)::ls) (.int 8::.int (v7 >>> (5 &&& 31))::st) H Q:=(w_x at_146 rfl).trans ((w_ki 5 at_148 rfl).trans ((w_x at_149 rfl).trans (w_ki 8 at_150 rfl)))
theorem m67_152:M67 152 ls [.int a1,.int a0] H Q=M66 0 [.val (.int a0),.val (.int a1),.unset] [] H (fun v H1 => M67 155 ls (v.toList ++ []) H1 Q):=wt [.int a1,.int a0] [] at_152 cr67_18 rfl rfl rfl rfl
theorem m67_155g (h:okS t):M67 155 (a::c::d::f::k::l::m::n::o::p::t::ls) ((.int v)::st) H Q=M67 157 (a::c::d::f::k::l::m::n::o::p::.val (.int v)::ls) st H Q:=by rcases h with rfl | ⟨z,rfl⟩ <;> exact ws 10 at_155 rfl rfl rfl rfl rfl rfl
theorem m67_157:M67 157 (a::.val (.ref r)::ls) st H Q=M67 158 (a::.val (.ref r)::ls) (.ref r::st) H Q:=w_x at_157 rfl
theorem m67_158:M67 158 (a::c::d::f::k::l::.val (.int v6)::n::.val (.int v8)::.val (.int v9)::.val (.int v10)::ls) st H Q=M67 166 (a::c::d::f::k::l::.val (.int v6)::n::.val (.int v8)::.val (.int v9)::.val (.int v10)::ls) (.int v8::.int v10::.int v6::.int v9::st) H Q:=(w_x at_158 rfl).trans ((w_x at_160 rfl).trans ((w_x at_162 rfl).trans (w_x at_164 rfl)))
theorem cr67_22:vR tables_1 dn y67 22=some (false,y3,prog_1_method_2_code,5,(some .boolean),4,109):=cv ⟨[.int,.int,.int,.int],some .boolean⟩ rc_3 dn_3 dn_67
theorem m67_166:M67 166 ls [.int a3,.int a2,.int a1,.int a0,.ref (b+1)] (put (b+1) e s A g) Q=M3 0 [.val (.ref (b+1)),.val (.int a0),.val (.int a1),.val (.int a2),.val (.int a3)] [] (put (b+1) e s A g) (fun v H1 => M67 169 ls (v.toList ++ []) H1 Q):=wv [.int a3,.int a2,.int a1,.int a0] [] at_166 cr67_22 rfl rfl rfl rfl rfl
theorem m67_169:M67 169 ls ((.int v)::st) H Q=M67 170 ls st H Q:=w_x at_169 rfl
theorem m67_170:M67 170 (a::c::.val (.ref r)::ls) st H Q=M67 171 (a::c::.val (.ref r)::ls) (.ref r::st) H Q:=w_x at_170 rfl
theorem m67_171:M67 171 (a::c::d::f::k::l::.val (.int v6)::n::.val (.int v8)::.val (.int v9)::.val (.int v10)::ls) st H Q=M67 179 (a::c::d::f::k::l::.val (.int v6)::n::.val (.int v8)::.val (.int v9)::.val (.int v10)::ls) (.int v8::.int v10::.int v6::.int v9::st) H Q:=(w_x at_171 rfl).trans ((w_x at_173 rfl).trans ((w_x at_175 rfl).trans (w_x at_177 rfl)))
theorem m67_179:M67 179 ls [.int a3,.int a2,.int a1,.int a0,.ref (b+1)] (put (b+1) e s A g) Q=M3 0 [.val (.ref (b+1)),.val (.int a0),.val (.int a1),.val (.int a2),.val (.int a3)] [] (put (b+1) e s A g) (fun v H1 => M67 182 ls (v.toList ++ []) H1 Q):=wv [.int a3,.int a2,.int a1,.int a0] [] at_179 cr67_22 rfl rfl rfl rfl rfl
theorem m67_182:M67 182 ls ((.int v)::st) H Q=M67 183 ls st H Q:=w_x at_182 rfl
theorem m67_183:M67 183 ls st H Q=M67 1799 ls st H Q:=w_x at_183 rfl
theorem m67_186:M67 186 (a::c::d::f::.val (.int v4)::ls) st H Q=if v4=1 then M67 192 (a::c::d::f::.val (.int v4)::ls) st H Q else M67 275 (a::c::d::f::.val (.int v4)::ls) st H Q:=(w_x at_186 rfl).trans ((w_ki 1 at_188 rfl).trans (w_icmpN at_189 (i_ne v4 1) rfl))
theorem m67_192:M67 192 (.val (.ref r)::ls) st H Q=M67 193 (.val (.ref r)::ls) (.ref r::st) H Q:=w_x at_192 rfl
theorem m67_193:M67 193 (a::c::d::.val (.int v3)::ls) st H Q=M67 197 (a::c::d::.val (.int (v3+1))::ls) (.int v3::st) H Q:=(w_x at_193 rfl).trans (w_iinc at_194 rfl (by decide) rfl)
theorem m67_197 (a0:Nat) (a1:Int32):M67 197 ls [.int a1,.ref a0] H Q=M65 0 [.val (.ref a0),.val (.int a1)] [] H (fun v H1 => M67 200 ls (v.toList ++ []) H1 Q):=wt [.int a1,.ref a0] [] at_197 cr67_9 rfl rfl rfl rfl
theorem m67_200g (h:okS m):M67 200 (a::c::d::f::k::l::m::ls) ((.int v)::st) H Q=M67 202 (a::c::d::f::k::l::.val (.int v)::ls) st H Q:=by rcases h with rfl | ⟨z,rfl⟩ <;> exact ws 6 at_200 rfl rfl rfl rfl rfl rfl
theorem m67_202:M67 202 (a::c::d::f::k::.val (.int v5)::ls) st H Q=if ((((v5 >>> (6 &&& 31))) &&& 1))=1 then M67 213 (a::c::d::f::k::.val (.int v5)::ls) st H Q else M67 218 (a::c::d::f::k::.val (.int v5)::ls) st H Q:=(w_x at_202 rfl).trans ((w_ki 6 at_204 rfl).trans ((w_x at_206 rfl).trans ((w_ki 1 at_207 rfl).trans ((w_x at_208 rfl).trans ((w_ki 1 at_209 rfl).trans (w_icmpN at_210 (i_ne ((((v5 >>> (6 &&& 31))) &&& 1)) 1) rfl))))))
theorem m67_213:M67 213 (a::c::d::f::k::l::.val (.int v6)::ls) st H Q=M67 228 (a::c::d::f::k::l::.val (.int v6)::ls) (.int v6::st) H Q:=(w_x at_213 rfl).trans (w_x at_215 rfl)
theorem m67_218:M67 218 (a::c::d::f::k::l::.val (.int v6)::ls) st H Q=M67 222 (a::c::d::f::k::l::.val (.int v6)::ls) (.int 41::.int v6::st) H Q:=(w_x at_218 rfl).trans (w_ki 41 at_220 rfl)
theorem m67_222:M67 222 ls [.int a1,.int a0] H Q=M66 0 [.val (.int a0),.val (.int a1),.unset] [] H (fun v H1 => M67 225 ls (v.toList ++ []) H1 Q):=wt [.int a1,.int a0] [] at_222 cr67_18 rfl rfl rfl rfl
theorem m67_225:M67 225 ls st H Q=M67 227 ls (.int 8::st) H Q:=w_con at_225 rfl (by decide)
theorem m67_227:M67 227 ls (.int y::.int x::st) H Q=M67 228 ls (.int (x - y)::st) H Q:=w_x at_227 rfl
theorem m67_228g (h:okS n):M67 228 (a::c::d::f::k::l::m::n::ls) ((.int v)::st) H Q=M67 230 (a::c::d::f::k::l::m::.val (.int v)::ls) st H Q:=by rcases h with rfl | ⟨z,rfl⟩ <;> exact ws 7 at_228 rfl rfl rfl rfl rfl rfl
theorem m67_230:M67 230 (a::c::d::f::k::.val (.int v5)::ls) st H Q=if (v5 &&& 1)=0 then M67 237 (a::c::d::f::k::.val (.int v5)::ls) st H Q else M67 256 (a::c::d::f::k::.val (.int v5)::ls) st H Q:=(w_x at_230 rfl).trans ((w_ki 1 at_232 rfl).trans ((w_x at_233 rfl).trans (w_ifN at_234 (z_ne (v5 &&& 1)) rfl)))
theorem m67_237:M67 237 (a::.val (.ref r)::ls) st H Q=M67 238 (a::.val (.ref r)::ls) (.ref r::st) H Q:=w_x at_237 rfl
theorem m67_238:M67 238 (a::c::d::f::k::.val (.int v5)::ls) st H Q=M67 244 (a::c::d::f::k::.val (.int v5)::ls) (.int 8::.int (v5 >>> (1 &&& 31))::st) H Q:=(w_x at_238 rfl).trans ((w_ki 1 at_240 rfl).trans ((w_x at_241 rfl).trans (w_ki 8 at_242 rfl)))
theorem m67_244 (a0:Int32) (a1:Int32) (u0:Nat):M67 244 ls [.int a1,.int a0,.ref u0] H Q=M66 0 [.val (.int a0),.val (.int a1),.unset] [] H (fun v H1 => M67 247 ls (v.toList ++ [.ref u0]) H1 Q):=wt [.int a1,.int a0] [.ref u0] at_244 cr67_18 rfl rfl rfl rfl
theorem m67_247:M67 247 (a::c::d::f::k::l::m::.val (.int v)::ls) st H Q=M67 249 (a::c::d::f::k::l::m::.val (.int v)::ls) (.int v::st) H Q:=w_x at_247 rfl
theorem cr67_26:vR tables_1 dn y67 26=some (false,y1,prog_1_method_5_code,3,(some .boolean),2,141):=cv ⟨[.int,.int],some .boolean⟩ rc_1 dn_1 dn_67
theorem m67_249:M67 249 ls [.int a1,.int a0,.ref (b+1)] (put (b+1) e s A g) Q=M1 0 [.val (.ref (b+1)),.val (.int a0),.val (.int a1)] [] (put (b+1) e s A g) (fun v H1 => M67 252 ls (v.toList ++ []) H1 Q):=wv [.int a1,.int a0] [] at_249 cr67_26 rfl rfl rfl rfl rfl
theorem m67_252:M67 252 ls ((.int v)::st) H Q=M67 253 ls st H Q:=w_x at_252 rfl
theorem m67_253:M67 253 ls st H Q=M67 272 ls st H Q:=w_x at_253 rfl
theorem m67_256:M67 256 (a::.val (.ref r)::ls) st H Q=M67 257 (a::.val (.ref r)::ls) (.ref r::st) H Q:=w_x at_256 rfl
theorem m67_257:M67 257 (a::c::d::f::k::.val (.int v5)::ls) st H Q=M67 263 (a::c::d::f::k::.val (.int v5)::ls) (.int 32::.int (v5 >>> (1 &&& 31))::st) H Q:=(w_x at_257 rfl).trans ((w_ki 1 at_259 rfl).trans ((w_x at_260 rfl).trans (w_ki 32 at_261 rfl)))
theorem m67_263 (a0:Int32) (a1:Int32) (u0:Nat):M67 263 ls [.int a1,.int a0,.ref u0] H Q=M66 0 [.val (.int a0),.val (.int a1),.unset] [] H (fun v H1 => M67 266 ls (v.toList ++ [.ref u0]) H1 Q):=wt [.int a1,.int a0] [.ref u0] at_263 cr67_18 rfl rfl rfl rfl
theorem m67_266:M67 266 (a::c::d::f::k::l::m::.val (.int v)::ls) st H Q=M67 268 (a::c::d::f::k::l::m::.val (.int v)::ls) (.int v::st) H Q:=w_x at_266 rfl
theorem cr67_30:vR tables_1 dn y67 30=some (false,y27,prog_1_method_6_code,3,(some .boolean),2,141):=cv ⟨[.int,.int],some .boolean⟩ rc_27 dn_27 dn_67
theorem m67_268:M67 268 ls [.int a1,.int a0,.ref (b+1)] (put (b+1) e s A g) Q=M27 0 [.val (.ref (b+1)),.val (.int a0),.val (.int a1)] [] (put (b+1) e s A g) (fun v H1 => M67 271 ls (v.toList ++ []) H1 Q):=wv [.int a1,.int a0] [] at_268 cr67_30 rfl rfl rfl rfl rfl
theorem m67_271:M67 271 ls ((.int v)::st) H Q=M67 272 ls st H Q:=w_x at_271 rfl
theorem m67_272:M67 272 ls st H Q=M67 1799 ls st H Q:=w_x at_272 rfl
theorem m67_275:M67 275 (a::c::d::f::.val (.int v4)::ls) st H Q=if v4=2 then M67 281 (a::c::d::f::.val (.int v4)::ls) st H Q else M67 666 (a::c::d::f::.val (.int v4)::ls) st H Q:=(w_x at_275 rfl).trans ((w_ki 2 at_277 rfl).trans (w_icmpN at_278 (i_ne v4 2) rfl))
theorem m67_281:M67 281 (a::c::d::f::k::.val (.int v5)::ls) st H Q=M67 284 (a::c::d::f::k::.val (.int v5)::ls) (.int 4::.int v5::st) H Q:=(w_x at_281 rfl).trans (w_ki 4 at_283 rfl)
theorem m67_284:M67 284 ls [.int a1,.int a0] H Q=M66 0 [.val (.int a0),.val (.int a1),.unset] [] H (fun v H1 => M67 287 ls (v.toList ++ []) H1 Q):=wt [.int a1,.int a0] [] at_284 cr67_18 rfl rfl rfl rfl
theorem m67_287g (h:okS m):M67 287 (a::c::d::f::k::l::m::ls) ((.int v)::st) H Q=M67 289 (a::c::d::f::k::l::.val (.int v)::ls) st H Q:=by rcases h with rfl | ⟨z,rfl⟩ <;> exact ws 6 at_287 rfl rfl rfl rfl rfl rfl
theorem m67_289:M67 289 (a::c::d::f::k::.val (.int v5)::ls) st H Q=M67 295 (a::c::d::f::k::.val (.int v5)::ls) (.int 4::.int (v5 >>> (2 &&& 31))::.int 1::st) H Q:=(w_ki 1 at_289 rfl).trans ((w_x at_290 rfl).trans ((w_ki 2 at_292 rfl).trans ((w_x at_293 rfl).trans (w_ki 4 at_294 rfl))))
theorem m67_295:M67 295 ls [.int a1,.int a0,.int u0] H Q=M66 0 [.val (.int a0),.val (.int a1),.unset] [] H (fun v H1 => M67 298 ls (v.toList ++ [.int u0]) H1 Q):=wt [.int a1,.int a0] [.int u0] at_295 cr67_18 rfl rfl rfl rfl
theorem m67_298:M67 298 ls (.int y::.int x::st) H Q=M67 299 ls (.int (x+y)::st) H Q:=w_x at_298 rfl
theorem m67_299g (h:okS n):M67 299 (a::c::d::f::k::l::m::n::ls) ((.int v)::st) H Q=M67 301 (a::c::d::f::k::l::m::.val (.int v)::ls) st H Q:=by rcases h with rfl | ⟨z,rfl⟩ <;> exact ws 7 at_299 rfl rfl rfl rfl rfl rfl
theorem m67_301:M67 301 ls st H Q=M67 302 ls (.int 0::st) H Q:=w_con at_301 rfl (by decide)
theorem m67_302g (h:okS o):M67 302 (a::c::d::f::k::l::m::n::o::ls) ((.int v)::st) H Q=M67 304 (a::c::d::f::k::l::m::n::.val (.int v)::ls) st H Q:=by rcases h with rfl | ⟨z,rfl⟩ <;> exact ws 8 at_302 rfl rfl rfl rfl rfl rfl
theorem m67_304:M67 304 (a::c::d::f::k::l::m::.val (.int v7)::.val (.int v8)::ls) st H Q=if v8 < v7 then M67 311 (a::c::d::f::k::l::m::.val (.int v7)::.val (.int v8)::ls) st H Q else M67 656 (a::c::d::f::k::l::m::.val (.int v7)::.val (.int v8)::ls) st H Q:=(w_x at_304 rfl).trans ((w_x at_306 rfl).trans (w_icmpN at_308 (i_ge v8 v7) rfl))
theorem m67_311:M67 311 (a::c::d::f::k::l::m::n::.val (.int v8)::ls) st H Q=if 0 < v8 then M67 316 (a::c::d::f::k::l::m::n::.val (.int v8)::ls) st H Q else M67 323 (a::c::d::f::k::l::m::n::.val (.int v8)::ls) st H Q:=(w_x at_311 rfl).trans (w_ifN at_313 (z_le v8) rfl)
theorem m67_316:M67 316 (a::.val (.ref r)::ls) st H Q=M67 317 (a::.val (.ref r)::ls) (.ref r::st) H Q:=w_x at_316 rfl
theorem m67_317:M67 317 ls st H Q=M67 319 ls (.int 0::.int 4::st) H Q:=(w_ki 4 at_317 rfl).trans (w_ki 0 at_318 rfl)
theorem cr67_33:vR tables_1 dn y67 33=some (false,y7,prog_1_method_9_code,3,(some .boolean),2,141):=cv ⟨[.int,.int],some .boolean⟩ rc_7 dn_7 dn_67
theorem m67_319:M67 319 ls [.int a1,.int a0,.ref (b+1)] (put (b+1) e s A g) Q=M7 0 [.val (.ref (b+1)),.val (.int a0),.val (.int a1)] [] (put (b+1) e s A g) (fun v H1 => M67 322 ls (v.toList ++ []) H1 Q):=wv [.int a1,.int a0] [] at_319 cr67_33 rfl rfl rfl rfl rfl
theorem m67_322:M67 322 ls ((.int v)::st) H Q=M67 323 ls st H Q:=w_x at_322 rfl
theorem m67_323:M67 323 ls st H Q=M67 324 ls (.int 1::st) H Q:=w_con at_323 rfl (by decide)
theorem m67_324:M67 324 (.val (.ref r)::ls) st H Q=M67 325 (.val (.ref r)::ls) (.ref r::st) H Q:=w_x at_324 rfl
theorem m67_325:M67 325 (a::c::d::.val (.int v3)::ls) st H Q=M67 329 (a::c::d::.val (.int (v3+1))::ls) (.int v3::st) H Q:=(w_x at_325 rfl).trans (w_iinc at_326 rfl (by decide) rfl)
theorem m67_329 (a0:Nat) (a1:Int32) (u0:Int32):M67 329 ls [.int a1,.ref a0,.int u0] H Q=M65 0 [.val (.ref a0),.val (.int a1)] [] H (fun v H1 => M67 332 ls (v.toList ++ [.int u0]) H1 Q):=wt [.int a1,.ref a0] [.int u0] at_329 cr67_9 rfl rfl rfl rfl
theorem m67_332:M67 332 (a::c::d::f::k::l::m::.val (.int v7)::ls) st H Q=if 2 < v7 then M67 338 (a::c::d::f::k::l::m::.val (.int v7)::ls) st H Q else M67 342 (a::c::d::f::k::l::m::.val (.int v7)::ls) st H Q:=(w_x at_332 rfl).trans ((w_ki 2 at_334 rfl).trans (w_icmpN at_335 (i_le v7 2) rfl))
theorem m67_338:M67 338 ls st H Q=M67 343 ls (.int 2::st) H Q:=(w_ki 2 at_338 rfl).trans (w_x at_339 rfl)
theorem m67_342:M67 342 ls st H Q=M67 343 ls (.int 3::st) H Q:=w_con at_342 rfl (by decide)
theorem m67_343:M67 343 ls [.int a1,.int a0,.int u0] H Q=M66 0 [.val (.int a0),.val (.int a1),.unset] [] H (fun v H1 => M67 346 ls (v.toList ++ [.int u0]) H1 Q):=wt [.int a1,.int a0] [.int u0] at_343 cr67_18 rfl rfl rfl rfl
theorem m67_346:M67 346 ls (.int y::.int x::st) H Q=M67 347 ls (.int (x+y)::st) H Q:=w_x at_346 rfl
theorem m67_347g (h:okS p):M67 347 (a::c::d::f::k::l::m::n::o::p::ls) ((.int v)::st) H Q=M67 349 (a::c::d::f::k::l::m::n::o::.val (.int v)::ls) st H Q:=by rcases h with rfl | ⟨z,rfl⟩ <;> exact ws 9 at_347 rfl rfl rfl rfl rfl rfl
theorem m67_349:M67 349 ls st H Q=M67 350 ls (.int 0::st) H Q:=w_con at_349 rfl (by decide)
theorem m67_350g (h:okS t):M67 350 (a::c::d::f::k::l::m::n::o::p::t::ls) ((.int v)::st) H Q=M67 352 (a::c::d::f::k::l::m::n::o::p::.val (.int v)::ls) st H Q:=by rcases h with rfl | ⟨z,rfl⟩ <;> exact ws 10 at_350 rfl rfl rfl rfl rfl rfl
theorem m67_352:M67 352 (a::c::d::f::k::l::m::n::o::.val (.int v9)::.val (.int v10)::ls) st H Q=if v10 < v9 then M67 359 (a::c::d::f::k::l::m::n::o::.val (.int v9)::.val (.int v10)::ls) st H Q else M67 650 (a::c::d::f::k::l::m::n::o::.val (.int v9)::.val (.int v10)::ls) st H Q:=(w_x at_352 rfl).trans ((w_x at_354 rfl).trans (w_icmpN at_356 (i_ge v10 v9) rfl))
theorem m67_359:M67 359 (a::c::d::f::k::l::m::n::o::p::.val (.int v10)::ls) st H Q=if 0 < v10 then M67 364 (a::c::d::f::k::l::m::n::o::p::.val (.int v10)::ls) st H Q else M67 386 (a::c::d::f::k::l::m::n::o::p::.val (.int v10)::ls) st H Q:=(w_x at_359 rfl).trans (w_ifN at_361 (z_le v10) rfl)
theorem m67_364:M67 364 (a::.val (.ref r)::ls) st H Q=M67 365 (a::.val (.ref r)::ls) (.ref r::st) H Q:=w_x at_364 rfl
theorem m67_365:M67 365 ls st H Q=M67 367 ls (.int 8::st) H Q:=w_con at_365 rfl (by decide)
theorem m67_367:M67 367 (.val (.ref r)::ls) st H Q=M67 368 (.val (.ref r)::ls) (.ref r::st) H Q:=w_x at_367 rfl
theorem m67_368:M67 368 (a::c::d::.val (.int v3)::ls) st H Q=M67 372 (a::c::d::.val (.int (v3+1))::ls) (.int v3::st) H Q:=(w_x at_368 rfl).trans (w_iinc at_369 rfl (by decide) rfl)
theorem m67_372 (a0:Nat) (a1:Int32) (u0:Int32) (u1:Nat):M67 372 ls [.int a1,.ref a0,.int u0,.ref u1] H Q=M65 0 [.val (.ref a0),.val (.int a1)] [] H (fun v H1 => M67 375 ls (v.toList ++ [.int u0,.ref u1]) H1 Q):=wt [.int a1,.ref a0] [.int u0,.ref u1] at_372 cr67_9 rfl rfl rfl rfl
theorem m67_375:M67 375 ls st H Q=M67 377 ls (.int 13::st) H Q:=w_con at_375 rfl (by decide)
theorem m67_377 (a0:Int32) (a1:Int32) (u0:Int32) (u1:Nat):M67 377 ls [.int a1,.int a0,.int u0,.ref u1] H Q=M66 0 [.val (.int a0),.val (.int a1),.unset] [] H (fun v H1 => M67 380 ls (v.toList ++ [.int u0,.ref u1]) H1 Q):=wt [.int a1,.int a0] [.int u0,.ref u1] at_377 cr67_18 rfl rfl rfl rfl
theorem m67_380:M67 380 ls (.int y::.int x::st) H Q=M67 381 ls (.int (x+y)::st) H Q:=w_x at_380 rfl
theorem m67_381:M67 381 ls st H Q=M67 382 ls (.int 0::st) H Q:=w_con at_381 rfl (by decide)
theorem m67_382:M67 382 ls [.int a1,.int a0,.ref (b+1)] (put (b+1) e s A g) Q=M7 0 [.val (.ref (b+1)),.val (.int a0),.val (.int a1)] [] (put (b+1) e s A g) (fun v H1 => M67 385 ls (v.toList ++ []) H1 Q):=wv [.int a1,.int a0] [] at_382 cr67_33 rfl rfl rfl rfl rfl
theorem m67_385:M67 385 ls ((.int v)::st) H Q=M67 386 ls st H Q:=w_x at_385 rfl
theorem m67_386:M67 386 (.val (.ref r)::ls) st H Q=M67 387 (.val (.ref r)::ls) (.ref r::st) H Q:=w_x at_386 rfl
theorem m67_387:M67 387 (a::c::d::.val (.int v3)::ls) st H Q=M67 391 (a::c::d::.val (.int (v3+1))::ls) (.int v3::st) H Q:=(w_x at_387 rfl).trans (w_iinc at_388 rfl (by decide) rfl)
theorem m67_391 (a0:Nat) (a1:Int32):M67 391 ls [.int a1,.ref a0] H Q=M65 0 [.val (.ref a0),.val (.int a1)] [] H (fun v H1 => M67 394 ls (v.toList ++ []) H1 Q):=wt [.int a1,.ref a0] [] at_391 cr67_9 rfl rfl rfl rfl
theorem m67_394g (h:okS u):M67 394 (a::c::d::f::k::l::m::n::o::p::t::u::ls) ((.int v)::st) H Q=M67 396 (a::c::d::f::k::l::m::n::o::p::t::.val (.int v)::ls) st H Q:=by rcases h with rfl | ⟨z,rfl⟩ <;> exact ws 11 at_394 rfl rfl rfl rfl rfl rfl
theorem m67_396:M67 396 (a::c::d::f::k::l::m::n::o::p::t::.val (.int v11)::ls) st H Q=M67 402 (a::c::d::f::k::l::m::n::o::p::t::.val (.int v11)::ls) (.int 8::.int (v11 >>> (3 &&& 31))::st) H Q:=(w_x at_396 rfl).trans ((w_ki 3 at_398 rfl).trans ((w_x at_399 rfl).trans (w_ki 8 at_400 rfl)))
theorem m67_402:M67 402 ls [.int a1,.int a0] H Q=M66 0 [.val (.int a0),.val (.int a1),.unset] [] H (fun v H1 => M67 405 ls (v.toList ++ []) H1 Q):=wt [.int a1,.int a0] [] at_402 cr67_18 rfl rfl rfl rfl
theorem m67_405g (h:okS w):M67 405 (a::c::d::f::k::l::m::n::o::p::t::u::w::ls) ((.int v)::st) H Q=M67 407 (a::c::d::f::k::l::m::n::o::p::t::u::.val (.int v)::ls) st H Q:=by rcases h with rfl | ⟨z,rfl⟩ <;> exact ws 12 at_405 rfl rfl rfl rfl rfl rfl
theorem m67_407:M67 407 (a::c::d::f::k::l::m::n::o::p::t::.val (.int v11)::ls) st H Q=M67 411 (a::c::d::f::k::l::m::n::o::p::t::.val (.int v11)::ls) (.int 8::.int v11::st) H Q:=(w_x at_407 rfl).trans (w_ki 8 at_409 rfl)
theorem m67_411:M67 411 ls [.int a1,.int a0] H Q=M66 0 [.val (.int a0),.val (.int a1),.unset] [] H (fun v H1 => M67 414 ls (v.toList ++ []) H1 Q):=wt [.int a1,.int a0] [] at_411 cr67_18 rfl rfl rfl rfl
theorem m67_414g (h:okS C):M67 414 (a::c::d::f::k::l::m::n::o::p::t::u::w::C::ls) ((.int v)::st) H Q=M67 416 (a::c::d::f::k::l::m::n::o::p::t::u::w::.val (.int v)::ls) st H Q:=by rcases h with rfl | ⟨z,rfl⟩ <;> exact ws 13 at_414 rfl rfl rfl rfl rfl rfl
theorem m67_416:M67 416 (a::c::d::f::k::l::m::n::o::p::t::u::w::.val (.int v13)::ls) st H Q=if v13=0 then M67 421 (a::c::d::f::k::l::m::n::o::p::t::u::w::.val (.int v13)::ls) st H Q else M67 441 (a::c::d::f::k::l::m::n::o::p::t::u::w::.val (.int v13)::ls) st H Q:=(w_x at_416 rfl).trans (w_ifN at_418 (z_ne v13) rfl)
theorem m67_421:M67 421 (a::.val (.ref r)::ls) st H Q=M67 422 (a::.val (.ref r)::ls) (.ref r::st) H Q:=w_x at_421 rfl
theorem m67_422:M67 422 (a::c::d::f::k::l::m::n::o::p::t::.val (.int v11)::ls) st H Q=M67 429 (a::c::d::f::k::l::m::n::o::p::t::.val (.int v11)::ls) (.int 7::.int (v11 >>> (3 &&& 31))::.int 0::st) H Q:=(w_ki 0 at_422 rfl).trans ((w_x at_423 rfl).trans ((w_ki 3 at_425 rfl).trans ((w_x at_426 rfl).trans (w_ki 7 at_427 rfl))))
theorem m67_429 (a0:Int32) (a1:Int32) (u0:Int32) (u1:Nat):M67 429 ls [.int a1,.int a0,.int u0,.ref u1] H Q=M66 0 [.val (.int a0),.val (.int a1),.unset] [] H (fun v H1 => M67 432 ls (v.toList ++ [.int u0,.ref u1]) H1 Q):=wt [.int a1,.int a0] [.int u0,.ref u1] at_429 cr67_18 rfl rfl rfl rfl
theorem m67_432:M67 432 ls st H Q=M67 433 ls (.int 2::st) H Q:=w_con at_432 rfl (by decide)
theorem m67_433:M67 433 ls (.int y::.int x::st) H Q=M67 434 ls (.int (x - y)::st) H Q:=w_x at_433 rfl
theorem m67_434:M67 434 ls [.int a1,.int a0,.ref (b+1)] (put (b+1) e s A g) Q=M7 0 [.val (.ref (b+1)),.val (.int a0),.val (.int a1)] [] (put (b+1) e s A g) (fun v H1 => M67 437 ls (v.toList ++ []) H1 Q):=wv [.int a1,.int a0] [] at_434 cr67_33 rfl rfl rfl rfl rfl
theorem m67_437:M67 437 ls ((.int v)::st) H Q=M67 438 ls st H Q:=w_x at_437 rfl
theorem m67_438:M67 438 ls st H Q=M67 644 ls st H Q:=w_x at_438 rfl
theorem m67_441:M67 441 (a::c::d::f::k::l::m::n::o::p::t::u::w::.val (.int v13)::ls) st H Q=if v13=1 then M67 447 (a::c::d::f::k::l::m::n::o::p::t::u::w::.val (.int v13)::ls) st H Q else M67 458 (a::c::d::f::k::l::m::n::o::p::t::u::w::.val (.int v13)::ls) st H Q:=(w_x at_441 rfl).trans ((w_ki 1 at_443 rfl).trans (w_icmpN at_444 (i_ne v13 1) rfl))
theorem m67_447:M67 447 (a::.val (.ref r)::ls) st H Q=M67 448 (a::.val (.ref r)::ls) (.ref r::st) H Q:=w_x at_447 rfl
theorem m67_448:M67 448 (a::c::d::f::k::l::m::n::o::p::t::u::.val (.int v12)::ls) st H Q=M67 451 (a::c::d::f::k::l::m::n::o::p::t::u::.val (.int v12)::ls) (.int v12::.int 1::st) H Q:=(w_ki 1 at_448 rfl).trans (w_x at_449 rfl)
theorem m67_451:M67 451 ls [.int a1,.int a0,.ref (b+1)] (put (b+1) e s A g) Q=M7 0 [.val (.ref (b+1)),.val (.int a0),.val (.int a1)] [] (put (b+1) e s A g) (fun v H1 => M67 454 ls (v.toList ++ []) H1 Q):=wv [.int a1,.int a0] [] at_451 cr67_33 rfl rfl rfl rfl rfl
theorem m67_454:M67 454 ls ((.int v)::st) H Q=M67 455 ls st H Q:=w_x at_454 rfl
theorem m67_455:M67 455 ls st H Q=M67 644 ls st H Q:=w_x at_455 rfl
theorem m67_458:M67 458 (a::c::d::f::k::l::m::n::o::p::t::u::w::.val (.int v13)::ls) st H Q=if v13=2 then M67 464 (a::c::d::f::k::l::m::n::o::p::t::u::w::.val (.int v13)::ls) st H Q else M67 492 (a::c::d::f::k::l::m::n::o::p::t::u::w::.val (.int v13)::ls) st H Q:=(w_x at_458 rfl).trans ((w_ki 2 at_460 rfl).trans (w_icmpN at_461 (i_ne v13 2) rfl))
theorem m67_464:M67 464 (a::.val (.ref r)::ls) st H Q=M67 465 (a::.val (.ref r)::ls) (.ref r::st) H Q:=w_x at_464 rfl
theorem m67_465:M67 465 ls st H Q=M67 468 ls (.int 0::.int 7::st) H Q:=(w_ki 7 at_465 rfl).trans (w_ki 0 at_467 rfl)
theorem m67_468:M67 468 ls [.int a1,.int a0,.ref (b+1)] (put (b+1) e s A g) Q=M7 0 [.val (.ref (b+1)),.val (.int a0),.val (.int a1)] [] (put (b+1) e s A g) (fun v H1 => M67 471 ls (v.toList ++ []) H1 Q):=wv [.int a1,.int a0] [] at_468 cr67_33 rfl rfl rfl rfl rfl
theorem m67_471:M67 471 ls ((.int v)::st) H Q=M67 472 ls st H Q:=w_x at_471 rfl
theorem m67_472:M67 472 (a::.val (.ref r)::ls) st H Q=M67 473 (a::.val (.ref r)::ls) (.ref r::st) H Q:=w_x at_472 rfl
theorem m67_473:M67 473 (a::c::d::f::k::l::m::n::o::p::t::.val (.int v11)::ls) st H Q=M67 480 (a::c::d::f::k::l::m::n::o::p::t::.val (.int v11)::ls) (.int 40::.int (v11 >>> (3 &&& 31))::.int 0::st) H Q:=(w_ki 0 at_473 rfl).trans ((w_x at_474 rfl).trans ((w_ki 3 at_476 rfl).trans ((w_x at_477 rfl).trans (w_ki 40 at_478 rfl))))
theorem m67_480 (a0:Int32) (a1:Int32) (u0:Int32) (u1:Nat):M67 480 ls [.int a1,.int a0,.int u0,.ref u1] H Q=M66 0 [.val (.int a0),.val (.int a1),.unset] [] H (fun v H1 => M67 483 ls (v.toList ++ [.int u0,.ref u1]) H1 Q):=wt [.int a1,.int a0] [.int u0,.ref u1] at_480 cr67_18 rfl rfl rfl rfl
theorem m67_483:M67 483 ls st H Q=M67 484 ls (.int 4::st) H Q:=w_con at_483 rfl (by decide)
theorem m67_484:M67 484 ls (.int y::.int x::st) H Q=M67 485 ls (.int (x - y)::st) H Q:=w_x at_484 rfl
theorem m67_485:M67 485 ls [.int a1,.int a0,.ref (b+1)] (put (b+1) e s A g) Q=M7 0 [.val (.ref (b+1)),.val (.int a0),.val (.int a1)] [] (put (b+1) e s A g) (fun v H1 => M67 488 ls (v.toList ++ []) H1 Q):=wv [.int a1,.int a0] [] at_485 cr67_33 rfl rfl rfl rfl rfl
theorem m67_488:M67 488 ls ((.int v)::st) H Q=M67 489 ls st H Q:=w_x at_488 rfl
theorem m67_489:M67 489 ls st H Q=M67 644 ls st H Q:=w_x at_489 rfl
theorem m67_492:M67 492 (a::c::d::f::k::l::m::n::o::p::t::u::w::.val (.int v13)::ls) st H Q=if v13=3 then M67 498 (a::c::d::f::k::l::m::n::o::p::t::u::w::.val (.int v13)::ls) st H Q else M67 517 (a::c::d::f::k::l::m::n::o::p::t::u::w::.val (.int v13)::ls) st H Q:=(w_x at_492 rfl).trans ((w_ki 3 at_494 rfl).trans (w_icmpN at_495 (i_ne v13 3) rfl))
theorem m67_498:M67 498 (a::.val (.ref r)::ls) st H Q=M67 499 (a::.val (.ref r)::ls) (.ref r::st) H Q:=w_x at_498 rfl
theorem m67_499:M67 499 ls st H Q=M67 502 ls (.int 0::.int 7::st) H Q:=(w_ki 7 at_499 rfl).trans (w_ki 0 at_501 rfl)
theorem m67_502:M67 502 ls [.int a1,.int a0,.ref (b+1)] (put (b+1) e s A g) Q=M7 0 [.val (.ref (b+1)),.val (.int a0),.val (.int a1)] [] (put (b+1) e s A g) (fun v H1 => M67 505 ls (v.toList ++ []) H1 Q):=wv [.int a1,.int a0] [] at_502 cr67_33 rfl rfl rfl rfl rfl
theorem m67_505:M67 505 ls ((.int v)::st) H Q=M67 506 ls st H Q:=w_x at_505 rfl
theorem m67_506:M67 506 (a::.val (.ref r)::ls) st H Q=M67 507 (a::.val (.ref r)::ls) (.ref r::st) H Q:=w_x at_506 rfl
theorem m67_507:M67 507 (a::c::d::f::k::l::m::n::o::p::t::u::.val (.int v12)::ls) st H Q=M67 510 (a::c::d::f::k::l::m::n::o::p::t::u::.val (.int v12)::ls) (.int v12::.int 1::st) H Q:=(w_ki 1 at_507 rfl).trans (w_x at_508 rfl)
theorem m67_510:M67 510 ls [.int a1,.int a0,.ref (b+1)] (put (b+1) e s A g) Q=M7 0 [.val (.ref (b+1)),.val (.int a0),.val (.int a1)] [] (put (b+1) e s A g) (fun v H1 => M67 513 ls (v.toList ++ []) H1 Q):=wv [.int a1,.int a0] [] at_510 cr67_33 rfl rfl rfl rfl rfl
theorem m67_513:M67 513 ls ((.int v)::st) H Q=M67 514 ls st H Q:=w_x at_513 rfl
theorem m67_514:M67 514 ls st H Q=M67 644 ls st H Q:=w_x at_514 rfl
theorem m67_517:M67 517 (a::c::d::f::k::l::m::n::o::p::t::u::w::.val (.int v13)::ls) st H Q=if v13=4 then M67 523 (a::c::d::f::k::l::m::n::o::p::t::u::w::.val (.int v13)::ls) st H Q else M67 541 (a::c::d::f::k::l::m::n::o::p::t::u::w::.val (.int v13)::ls) st H Q:=(w_x at_517 rfl).trans ((w_ki 4 at_519 rfl).trans (w_icmpN at_520 (i_ne v13 4) rfl))
theorem m67_523:M67 523 (a::.val (.ref r)::ls) st H Q=M67 524 (a::.val (.ref r)::ls) (.ref r::st) H Q:=w_x at_523 rfl
theorem m67_524:M67 524 ls st H Q=M67 526 ls (.int 0::.int 5::st) H Q:=(w_ki 5 at_524 rfl).trans (w_ki 0 at_525 rfl)
theorem m67_526:M67 526 ls [.int a1,.int a0,.ref (b+1)] (put (b+1) e s A g) Q=M7 0 [.val (.ref (b+1)),.val (.int a0),.val (.int a1)] [] (put (b+1) e s A g) (fun v H1 => M67 529 ls (v.toList ++ []) H1 Q):=wv [.int a1,.int a0] [] at_526 cr67_33 rfl rfl rfl rfl rfl
theorem m67_529:M67 529 ls ((.int v)::st) H Q=M67 530 ls st H Q:=w_x at_529 rfl
theorem m67_530:M67 530 (a::.val (.ref r)::ls) st H Q=M67 531 (a::.val (.ref r)::ls) (.ref r::st) H Q:=w_x at_530 rfl
theorem m67_531:M67 531 (a::c::d::f::k::l::m::n::o::p::t::u::.val (.int v12)::ls) st H Q=M67 534 (a::c::d::f::k::l::m::n::o::p::t::u::.val (.int v12)::ls) (.int v12::.int 1::st) H Q:=(w_ki 1 at_531 rfl).trans (w_x at_532 rfl)
theorem m67_534:M67 534 ls [.int a1,.int a0,.ref (b+1)] (put (b+1) e s A g) Q=M7 0 [.val (.ref (b+1)),.val (.int a0),.val (.int a1)] [] (put (b+1) e s A g) (fun v H1 => M67 537 ls (v.toList ++ []) H1 Q):=wv [.int a1,.int a0] [] at_534 cr67_33 rfl rfl rfl rfl rfl
theorem m67_537:M67 537 ls ((.int v)::st) H Q=M67 538 ls st H Q:=w_x at_537 rfl
theorem m67_538:M67 538 ls st H Q=M67 644 ls st H Q:=w_x at_538 rfl
theorem m67_541:M67 541 (a::c::d::f::k::l::m::n::o::p::t::u::w::.val (.int v13)::ls) st H Q=if v13=5 then M67 547 (a::c::d::f::k::l::m::n::o::p::t::u::w::.val (.int v13)::ls) st H Q else M67 566 (a::c::d::f::k::l::m::n::o::p::t::u::w::.val (.int v13)::ls) st H Q:=(w_x at_541 rfl).trans ((w_ki 5 at_543 rfl).trans (w_icmpN at_544 (i_ne v13 5) rfl))
theorem m67_547:M67 547 (a::.val (.ref r)::ls) st H Q=M67 548 (a::.val (.ref r)::ls) (.ref r::st) H Q:=w_x at_547 rfl
theorem m67_548:M67 548 ls st H Q=M67 551 ls (.int 0::.int 6::st) H Q:=(w_ki 6 at_548 rfl).trans (w_ki 0 at_550 rfl)
theorem m67_551:M67 551 ls [.int a1,.int a0,.ref (b+1)] (put (b+1) e s A g) Q=M7 0 [.val (.ref (b+1)),.val (.int a0),.val (.int a1)] [] (put (b+1) e s A g) (fun v H1 => M67 554 ls (v.toList ++ []) H1 Q):=wv [.int a1,.int a0] [] at_551 cr67_33 rfl rfl rfl rfl rfl
theorem m67_554:M67 554 ls ((.int v)::st) H Q=M67 555 ls st H Q:=w_x at_554 rfl
theorem m67_555:M67 555 (a::.val (.ref r)::ls) st H Q=M67 556 (a::.val (.ref r)::ls) (.ref r::st) H Q:=w_x at_555 rfl
theorem m67_556:M67 556 (a::c::d::f::k::l::m::n::o::p::t::u::.val (.int v12)::ls) st H Q=M67 559 (a::c::d::f::k::l::m::n::o::p::t::u::.val (.int v12)::ls) (.int v12::.int 1::st) H Q:=(w_ki 1 at_556 rfl).trans (w_x at_557 rfl)
theorem m67_559:M67 559 ls [.int a1,.int a0,.ref (b+1)] (put (b+1) e s A g) Q=M7 0 [.val (.ref (b+1)),.val (.int a0),.val (.int a1)] [] (put (b+1) e s A g) (fun v H1 => M67 562 ls (v.toList ++ []) H1 Q):=wv [.int a1,.int a0] [] at_559 cr67_33 rfl rfl rfl rfl rfl
theorem m67_562:M67 562 ls ((.int v)::st) H Q=M67 563 ls st H Q:=w_x at_562 rfl
theorem m67_563:M67 563 ls st H Q=M67 644 ls st H Q:=w_x at_563 rfl
theorem m67_566:M67 566 (a::c::d::f::k::l::m::n::o::p::t::u::w::.val (.int v13)::ls) st H Q=if v13=6 then M67 573 (a::c::d::f::k::l::m::n::o::p::t::u::w::.val (.int v13)::ls) st H Q else M67 634 (a::c::d::f::k::l::m::n::o::p::t::u::w::.val (.int v13)::ls) st H Q:=(w_x at_566 rfl).trans ((w_ki 6 at_568 rfl).trans (w_icmpN at_570 (i_ne v13 6) rfl))
theorem m67_573:M67 573 (a::.val (.ref r)::ls) st H Q=M67 574 (a::.val (.ref r)::ls) (.ref r::st) H Q:=w_x at_573 rfl
theorem m67_574:M67 574 ls st H Q=M67 576 ls (.int 0::.int 2::st) H Q:=(w_ki 2 at_574 rfl).trans (w_ki 0 at_575 rfl)
theorem m67_576:M67 576 ls [.int a1,.int a0,.ref (b+1)] (put (b+1) e s A g) Q=M7 0 [.val (.ref (b+1)),.val (.int a0),.val (.int a1)] [] (put (b+1) e s A g) (fun v H1 => M67 579 ls (v.toList ++ []) H1 Q):=wv [.int a1,.int a0] [] at_576 cr67_33 rfl rfl rfl rfl rfl
theorem m67_579:M67 579 ls ((.int v)::st) H Q=M67 580 ls st H Q:=w_x at_579 rfl
theorem m67_580:M67 580 (a::.val (.ref r)::ls) st H Q=M67 581 (a::.val (.ref r)::ls) (.ref r::st) H Q:=w_x at_580 rfl
theorem m67_581:M67 581 (a::c::d::f::k::l::m::n::o::p::t::u::.val (.int v12)::ls) st H Q=M67 584 (a::c::d::f::k::l::m::n::o::p::t::u::.val (.int v12)::ls) (.int v12::.int 1::st) H Q:=(w_ki 1 at_581 rfl).trans (w_x at_582 rfl)
theorem m67_584:M67 584 ls [.int a1,.int a0,.ref (b+1)] (put (b+1) e s A g) Q=M7 0 [.val (.ref (b+1)),.val (.int a0),.val (.int a1)] [] (put (b+1) e s A g) (fun v H1 => M67 587 ls (v.toList ++ []) H1 Q):=wv [.int a1,.int a0] [] at_584 cr67_33 rfl rfl rfl rfl rfl
theorem m67_587:M67 587 ls ((.int v)::st) H Q=M67 588 ls st H Q:=w_x at_587 rfl
theorem m67_588:M67 588 (a::.val (.ref r)::ls) st H Q=M67 589 (a::.val (.ref r)::ls) (.ref r::st) H Q:=w_x at_588 rfl
theorem m67_589:M67 589 (a::c::d::f::k::l::m::n::o::p::t::.val (.int v11)::ls) st H Q=M67 598 (a::c::d::f::k::l::m::n::o::p::t::.val (.int v11)::ls) (.int 13::.int (v11 >>> (6 &&& 31))::.int 8::st) H Q:=(w_ki 8 at_589 rfl).trans ((w_x at_591 rfl).trans ((w_ki 6 at_593 rfl).trans ((w_x at_595 rfl).trans (w_ki 13 at_596 rfl))))
theorem m67_598 (a0:Int32) (a1:Int32) (u0:Int32) (u1:Nat):M67 598 ls [.int a1,.int a0,.int u0,.ref u1] H Q=M66 0 [.val (.int a0),.val (.int a1),.unset] [] H (fun v H1 => M67 601 ls (v.toList ++ [.int u0,.ref u1]) H1 Q):=wt [.int a1,.int a0] [.int u0,.ref u1] at_598 cr67_18 rfl rfl rfl rfl
theorem m67_601:M67 601 ls (.int y::.int x::st) H Q=M67 602 ls (.int (x+y)::st) H Q:=w_x at_601 rfl
theorem m67_602:M67 602 ls st H Q=M67 603 ls (.int 0::st) H Q:=w_con at_602 rfl (by decide)
theorem m67_603:M67 603 ls [.int a1,.int a0,.ref (b+1)] (put (b+1) e s A g) Q=M7 0 [.val (.ref (b+1)),.val (.int a0),.val (.int a1)] [] (put (b+1) e s A g) (fun v H1 => M67 606 ls (v.toList ++ []) H1 Q):=wv [.int a1,.int a0] [] at_603 cr67_33 rfl rfl rfl rfl rfl
theorem m67_606:M67 606 ls ((.int v)::st) H Q=M67 607 ls st H Q:=w_x at_606 rfl
theorem m67_607:M67 607 (a::.val (.ref r)::ls) st H Q=M67 608 (a::.val (.ref r)::ls) (.ref r::st) H Q:=w_x at_607 rfl
theorem m67_608:M67 608 (a::c::d::f::k::l::m::n::o::p::t::.val (.int v11)::ls) st H Q=M67 615 (a::c::d::f::k::l::m::n::o::p::t::.val (.int v11)::ls) (.int 5::.int (v11 >>> (10 &&& 31))::.int 0::st) H Q:=(w_ki 0 at_608 rfl).trans ((w_x at_609 rfl).trans ((w_ki 10 at_611 rfl).trans ((w_x at_613 rfl).trans (w_ki 5 at_614 rfl))))
theorem m67_615 (a0:Int32) (a1:Int32) (u0:Int32) (u1:Nat):M67 615 ls [.int a1,.int a0,.int u0,.ref u1] H Q=M66 0 [.val (.int a0),.val (.int a1),.unset] [] H (fun v H1 => M67 618 ls (v.toList ++ [.int u0,.ref u1]) H1 Q):=wt [.int a1,.int a0] [.int u0,.ref u1] at_615 cr67_18 rfl rfl rfl rfl
theorem m67_618:M67 618 ls st H Q=M67 619 ls (.int 1::st) H Q:=w_con at_618 rfl (by decide)
theorem m67_619:M67 619 ls (.int y::.int x::st) H Q=M67 620 ls (.int (x - y)::st) H Q:=w_x at_619 rfl
theorem m67_620:M67 620 ls [.int a1,.int a0,.ref (b+1)] (put (b+1) e s A g) Q=M7 0 [.val (.ref (b+1)),.val (.int a0),.val (.int a1)] [] (put (b+1) e s A g) (fun v H1 => M67 623 ls (v.toList ++ []) H1 Q):=wv [.int a1,.int a0] [] at_620 cr67_33 rfl rfl rfl rfl rfl
theorem m67_623:M67 623 ls ((.int v)::st) H Q=M67 624 ls st H Q:=w_x at_623 rfl
theorem m67_624:M67 624 (a::.val (.ref r)::ls) st H Q=M67 625 (a::.val (.ref r)::ls) (.ref r::st) H Q:=w_x at_624 rfl
theorem m67_625:M67 625 ls st H Q=M67 627 ls (.int 0::.int 3::st) H Q:=(w_ki 3 at_625 rfl).trans (w_ki 0 at_626 rfl)
theorem m67_627:M67 627 ls [.int a1,.int a0,.ref (b+1)] (put (b+1) e s A g) Q=M7 0 [.val (.ref (b+1)),.val (.int a0),.val (.int a1)] [] (put (b+1) e s A g) (fun v H1 => M67 630 ls (v.toList ++ []) H1 Q):=wv [.int a1,.int a0] [] at_627 cr67_33 rfl rfl rfl rfl rfl
theorem m67_630:M67 630 ls ((.int v)::st) H Q=M67 631 ls st H Q:=w_x at_630 rfl
theorem m67_631:M67 631 ls st H Q=M67 644 ls st H Q:=w_x at_631 rfl
theorem m67_634:M67 634 (a::.val (.ref r)::ls) st H Q=M67 635 (a::.val (.ref r)::ls) (.ref r::st) H Q:=w_x at_634 rfl
theorem m67_635:M67 635 (a::c::d::f::k::l::m::n::o::p::t::.val (.int v11)::ls) st H Q=M67 640 (a::c::d::f::k::l::m::n::o::p::t::.val (.int v11)::ls) (.int (v11 >>> (3 &&& 31))::.int 0::st) H Q:=(w_ki 0 at_635 rfl).trans ((w_x at_636 rfl).trans ((w_ki 3 at_638 rfl).trans (w_x at_639 rfl)))
theorem m67_640:M67 640 ls [.int a1,.int a0,.ref (b+1)] (put (b+1) e s A g) Q=M7 0 [.val (.ref (b+1)),.val (.int a0),.val (.int a1)] [] (put (b+1) e s A g) (fun v H1 => M67 643 ls (v.toList ++ []) H1 Q):=wv [.int a1,.int a0] [] at_640 cr67_33 rfl rfl rfl rfl rfl
theorem m67_643:M67 643 ls ((.int v)::st) H Q=M67 644 ls st H Q:=w_x at_643 rfl
theorem m67_644:M67 644 (a::c::d::f::k::l::m::n::o::p::.val (.int v10)::ls) st H Q=M67 352 (a::c::d::f::k::l::m::n::o::p::.val (.int (v10+1))::ls) st H Q:=(w_iinc at_644 rfl (by decide) rfl).trans (w_x at_647 rfl)
theorem m67_650:M67 650 (a::c::d::f::k::l::m::n::.val (.int v8)::ls) st H Q=M67 304 (a::c::d::f::k::l::m::n::.val (.int (v8+1))::ls) st H Q:=(w_iinc at_650 rfl (by decide) rfl).trans (w_x at_653 rfl)
theorem m67_656:M67 656 (a::.val (.ref r)::ls) st H Q=M67 657 (a::.val (.ref r)::ls) (.ref r::st) H Q:=w_x at_656 rfl
theorem m67_657:M67 657 (a::c::d::f::k::l::.val (.int v)::ls) st H Q=M67 659 (a::c::d::f::k::l::.val (.int v)::ls) (.int v::st) H Q:=w_x at_657 rfl
theorem cr67_36:vR tables_1 dn y67 36=some (false,y8,prog_1_method_10_code,3,(some .int),1,55):=cv ⟨[.int],some .int⟩ rc_8 dn_8 dn_67
theorem m67_659:M67 659 ls [.int a0,.ref (b+1)] (put (b+1) e s A g) Q=M8 0 [.val (.ref (b+1)),.val (.int a0),.unset] [] (put (b+1) e s A g) (fun v H1 => M67 662 ls (v.toList ++ []) H1 Q):=wv [.int a0] [] at_659 cr67_36 rfl rfl rfl rfl rfl
theorem m67_662:M67 662 ls ((.int v)::st) H Q=M67 663 ls st H Q:=w_x at_662 rfl
theorem m67_663:M67 663 ls st H Q=M67 1799 ls st H Q:=w_x at_663 rfl
theorem m67_666:M67 666 (a::c::d::f::.val (.int v4)::ls) st H Q=if v4=3 then M67 672 (a::c::d::f::.val (.int v4)::ls) st H Q else M67 704 (a::c::d::f::.val (.int v4)::ls) st H Q:=(w_x at_666 rfl).trans ((w_ki 3 at_668 rfl).trans (w_icmpN at_669 (i_ne v4 3) rfl))
theorem m67_672:M67 672 (a::.val (.ref r)::ls) st H Q=M67 673 (a::.val (.ref r)::ls) (.ref r::st) H Q:=w_x at_672 rfl
theorem m67_673:M67 673 (a::c::d::f::k::.val (.int v5)::ls) st H Q=M67 676 (a::c::d::f::k::.val (.int v5)::ls) (.int 4::.int v5::st) H Q:=(w_x at_673 rfl).trans (w_ki 4 at_675 rfl)
theorem m67_676 (a0:Int32) (a1:Int32) (u0:Nat):M67 676 ls [.int a1,.int a0,.ref u0] H Q=M66 0 [.val (.int a0),.val (.int a1),.unset] [] H (fun v H1 => M67 679 ls (v.toList ++ [.ref u0]) H1 Q):=wt [.int a1,.int a0] [.ref u0] at_676 cr67_18 rfl rfl rfl rfl
theorem m67_679:M67 679 (a::c::d::f::k::.val (.int v5)::ls) st H Q=M67 685 (a::c::d::f::k::.val (.int v5)::ls) (.int 32::.int (v5 >>> (2 &&& 31))::st) H Q:=(w_x at_679 rfl).trans ((w_ki 2 at_681 rfl).trans ((w_x at_682 rfl).trans (w_ki 32 at_683 rfl)))
theorem m67_685 (a0:Int32) (a1:Int32) (u0:Int32) (u1:Nat):M67 685 ls [.int a1,.int a0,.int u0,.ref u1] H Q=M66 0 [.val (.int a0),.val (.int a1),.unset] [] H (fun v H1 => M67 688 ls (v.toList ++ [.int u0,.ref u1]) H1 Q):=wt [.int a1,.int a0] [.int u0,.ref u1] at_685 cr67_18 rfl rfl rfl rfl
theorem m67_688:M67 688 (a::c::d::f::k::.val (.int v5)::ls) st H Q=M67 694 (a::c::d::f::k::.val (.int v5)::ls) (.int 2::.int (v5 >>> (7 &&& 31))::st) H Q:=(w_x at_688 rfl).trans ((w_ki 7 at_690 rfl).trans ((w_x at_692 rfl).trans (w_ki 2 at_693 rfl)))
theorem m67_694 (a0:Int32) (a1:Int32) (u0:Int32) (u1:Int32) (u2:Nat):M67 694 ls [.int a1,.int a0,.int u0,.int u1,.ref u2] H Q=M66 0 [.val (.int a0),.val (.int a1),.unset] [] H (fun v H1 => M67 697 ls (v.toList ++ [.int u0,.int u1,.ref u2]) H1 Q):=wt [.int a1,.int a0] [.int u0,.int u1,.ref u2] at_694 cr67_18 rfl rfl rfl rfl
theorem cr67_40:vR tables_1 dn y67 40=some (false,y6,prog_1_method_31_code,5,(some .boolean),3,139):=cv ⟨[.int,.int,.int],some .boolean⟩ rc_6 dn_6 dn_67
theorem m67_697:M67 697 ls [.int a2,.int a1,.int a0,.ref (b+1)] (put (b+1) e s A g) Q=M6 0 [.val (.ref (b+1)),.val (.int a0),.val (.int a1),.val (.int a2),.unset] [] (put (b+1) e s A g) (fun v H1 => M67 700 ls (v.toList ++ []) H1 Q):=wv [.int a2,.int a1,.int a0] [] at_697 cr67_40 rfl rfl rfl rfl rfl
theorem m67_700:M67 700 ls ((.int v)::st) H Q=M67 701 ls st H Q:=w_x at_700 rfl
theorem m67_701:M67 701 ls st H Q=M67 1799 ls st H Q:=w_x at_701 rfl
theorem m67_704:M67 704 (a::c::d::f::.val (.int v4)::ls) st H Q=if v4=6 then M67 711 (a::c::d::f::.val (.int v4)::ls) st H Q else M67 808 (a::c::d::f::.val (.int v4)::ls) st H Q:=(w_x at_704 rfl).trans ((w_ki 6 at_706 rfl).trans (w_icmpN at_708 (i_ne v4 6) rfl))
theorem m67_711:M67 711 (a::c::d::f::k::.val (.int v5)::ls) st H Q=M67 714 (a::c::d::f::k::.val (.int v5)::ls) (.int 4::.int v5::st) H Q:=(w_x at_711 rfl).trans (w_ki 4 at_713 rfl)
theorem m67_714:M67 714 ls [.int a1,.int a0] H Q=M66 0 [.val (.int a0),.val (.int a1),.unset] [] H (fun v H1 => M67 717 ls (v.toList ++ []) H1 Q):=wt [.int a1,.int a0] [] at_714 cr67_18 rfl rfl rfl rfl
theorem m67_717g (h:okS m):M67 717 (a::c::d::f::k::l::m::ls) ((.int v)::st) H Q=M67 719 (a::c::d::f::k::l::.val (.int v)::ls) st H Q:=by rcases h with rfl | ⟨z,rfl⟩ <;> exact ws 6 at_717 rfl rfl rfl rfl rfl rfl
theorem m67_719:M67 719 (a::c::d::f::k::l::.val (.int v6)::ls) st H Q=if v6=0 then M67 724 (a::c::d::f::k::l::.val (.int v6)::ls) st H Q else M67 740 (a::c::d::f::k::l::.val (.int v6)::ls) st H Q:=(w_x at_719 rfl).trans (w_ifN at_721 (z_ne v6) rfl)
theorem m67_724:M67 724 (a::.val (.ref r)::ls) st H Q=M67 725 (a::.val (.ref r)::ls) (.ref r::st) H Q:=w_x at_724 rfl
theorem m67_725:M67 725 (a::c::d::f::k::.val (.int v5)::ls) st H Q=M67 730 (a::c::d::f::k::.val (.int v5)::ls) (.int 4::.int (v5 >>> (2 &&& 31))::st) H Q:=(w_x at_725 rfl).trans ((w_ki 2 at_727 rfl).trans ((w_x at_728 rfl).trans (w_ki 4 at_729 rfl)))
theorem m67_730 (a0:Int32) (a1:Int32) (u0:Nat):M67 730 ls [.int a1,.int a0,.ref u0] H Q=M66 0 [.val (.int a0),.val (.int a1),.unset] [] H (fun v H1 => M67 733 ls (v.toList ++ [.ref u0]) H1 Q):=wt [.int a1,.int a0] [.ref u0] at_730 cr67_18 rfl rfl rfl rfl
theorem cr67_44:vR tables_1 dn y67 44=some (false,y35,prog_1_method_32_code,2,(some .boolean),1,142):=cv ⟨[.int],some .boolean⟩ rc_35 dn_35 dn_67
theorem m67_733:M67 733 ls [.int a0,.ref (b+1)] (put (b+1) e s A g) Q=M35 0 [.val (.ref (b+1)),.val (.int a0)] [] (put (b+1) e s A g) (fun v H1 => M67 736 ls (v.toList ++ []) H1 Q):=wv [.int a0] [] at_733 cr67_44 rfl rfl rfl rfl rfl
theorem m67_736:M67 736 ls ((.int v)::st) H Q=M67 737 ls st H Q:=w_x at_736 rfl
theorem m67_737:M67 737 ls st H Q=M67 805 ls st H Q:=w_x at_737 rfl
theorem m67_740:M67 740 (a::c::d::f::k::l::.val (.int v6)::ls) st H Q=if v6=1 then M67 746 (a::c::d::f::k::l::.val (.int v6)::ls) st H Q else M67 753 (a::c::d::f::k::l::.val (.int v6)::ls) st H Q:=(w_x at_740 rfl).trans ((w_ki 1 at_742 rfl).trans (w_icmpN at_743 (i_ne v6 1) rfl))
theorem m67_746:M67 746 (a::.val (.ref r)::ls) st H Q=M67 747 (a::.val (.ref r)::ls) (.ref r::st) H Q:=w_x at_746 rfl
theorem cr67_48:vR tables_1 dn y67 48=some (false,y56,prog_1_method_63_code,1,none,0,158):=cv ⟨[],none⟩ rc_56 dn_56 dn_67
theorem m67_747:M67 747 ls [.ref (b+1)] (put (b+1) e s A g) Q=M56 0 [.val (.ref (b+1))] [] (put (b+1) e s A g) (fun v H1 => M67 750 ls (v.toList ++ []) H1 Q):=wv [] [] at_747 cr67_48 rfl rfl rfl rfl rfl
theorem m67_750:M67 750 ls st H Q=M67 805 ls st H Q:=w_x at_750 rfl
theorem m67_753:M67 753 (a::c::d::f::k::l::.val (.int v6)::ls) st H Q=if v6=2 then M67 759 (a::c::d::f::k::l::.val (.int v6)::ls) st H Q else M67 778 (a::c::d::f::k::l::.val (.int v6)::ls) st H Q:=(w_x at_753 rfl).trans ((w_ki 2 at_755 rfl).trans (w_icmpN at_756 (i_ne v6 2) rfl))
theorem m67_759:M67 759 (a::.val (.ref r)::ls) st H Q=M67 760 (a::.val (.ref r)::ls) (.ref r::st) H Q:=w_x at_759 rfl
theorem m67_760:M67 760 (a::c::d::f::k::.val (.int v5)::ls) st H Q=M67 768 (a::c::d::f::k::.val (.int v5)::ls) (.int 32::.int (v5 >>> (2 &&& 31))::.int 8::st) H Q:=(w_ki 8 at_760 rfl).trans ((w_x at_762 rfl).trans ((w_ki 2 at_764 rfl).trans ((w_x at_765 rfl).trans (w_ki 32 at_766 rfl))))
theorem m67_768 (a0:Int32) (a1:Int32) (u0:Int32) (u1:Nat):M67 768 ls [.int a1,.int a0,.int u0,.ref u1] H Q=M66 0 [.val (.int a0),.val (.int a1),.unset] [] H (fun v H1 => M67 771 ls (v.toList ++ [.int u0,.ref u1]) H1 Q):=wt [.int a1,.int a0] [.int u0,.ref u1] at_768 cr67_18 rfl rfl rfl rfl
theorem m67_771:M67 771 ls [.int a1,.int a0,.ref (b+1)] (put (b+1) e s A g) Q=M1 0 [.val (.ref (b+1)),.val (.int a0),.val (.int a1)] [] (put (b+1) e s A g) (fun v H1 => M67 774 ls (v.toList ++ []) H1 Q):=wv [.int a1,.int a0] [] at_771 cr67_26 rfl rfl rfl rfl rfl
theorem m67_774:M67 774 ls ((.int v)::st) H Q=M67 775 ls st H Q:=w_x at_774 rfl
theorem m67_775:M67 775 ls st H Q=M67 805 ls st H Q:=w_x at_775 rfl
theorem m67_778:M67 778 (a::.val (.ref r)::ls) st H Q=M67 779 (a::.val (.ref r)::ls) (.ref r::st) H Q:=w_x at_778 rfl
theorem m67_779:M67 779 (a::c::d::f::k::.val (.int v5)::ls) st H Q=M67 784 (a::c::d::f::k::.val (.int v5)::ls) (.int 4::.int (v5 >>> (2 &&& 31))::st) H Q:=(w_x at_779 rfl).trans ((w_ki 2 at_781 rfl).trans ((w_x at_782 rfl).trans (w_ki 4 at_783 rfl)))
theorem m67_784 (a0:Int32) (a1:Int32) (u0:Nat):M67 784 ls [.int a1,.int a0,.ref u0] H Q=M66 0 [.val (.int a0),.val (.int a1),.unset] [] H (fun v H1 => M67 787 ls (v.toList ++ [.ref u0]) H1 Q):=wt [.int a1,.int a0] [.ref u0] at_784 cr67_18 rfl rfl rfl rfl
theorem m67_787:M67 787 (a::.val (.ref r)::ls) st H Q=M67 788 (a::.val (.ref r)::ls) (.ref r::st) H Q:=w_x at_787 rfl
theorem m67_788:M67 788 ls st H Q=M67 790 ls (.int 8::st) H Q:=w_con at_788 rfl (by decide)
theorem cr67_51:vR tables_1 dn y67 51=some (false,y34,prog_1_method_7_code,2,(some .int),1,142):=cv ⟨[.int],some .int⟩ rc_34 dn_34 dn_67
theorem m67_790 (a0:Int32) (u0:Int32) (u1:Nat):M67 790 ls [.int a0,.ref (b+1),.int u0,.ref u1] (put (b+1) e s A g) Q=M34 0 [.val (.ref (b+1)),.val (.int a0)] [] (put (b+1) e s A g) (fun v H1 => M67 793 ls (v.toList ++ [.int u0,.ref u1]) H1 Q):=wv [.int a0] [.int u0,.ref u1] at_790 cr67_51 rfl rfl rfl rfl rfl
theorem m67_793:M67 793 (a::c::d::f::k::.val (.int v5)::ls) st H Q=M67 798 (a::c::d::f::k::.val (.int v5)::ls) (.int 2::.int (v5 >>> (4 &&& 31))::st) H Q:=(w_x at_793 rfl).trans ((w_ki 4 at_795 rfl).trans ((w_x at_796 rfl).trans (w_ki 2 at_797 rfl)))
theorem m67_798 (a0:Int32) (a1:Int32) (u0:Int32) (u1:Int32) (u2:Nat):M67 798 ls [.int a1,.int a0,.int u0,.int u1,.ref u2] H Q=M66 0 [.val (.int a0),.val (.int a1),.unset] [] H (fun v H1 => M67 801 ls (v.toList ++ [.int u0,.int u1,.ref u2]) H1 Q):=wt [.int a1,.int a0] [.int u0,.int u1,.ref u2] at_798 cr67_18 rfl rfl rfl rfl
theorem m67_801:M67 801 ls [.int a2,.int a1,.int a0,.ref (b+1)] (put (b+1) e s A g) Q=M6 0 [.val (.ref (b+1)),.val (.int a0),.val (.int a1),.val (.int a2),.unset] [] (put (b+1) e s A g) (fun v H1 => M67 804 ls (v.toList ++ []) H1 Q):=wv [.int a2,.int a1,.int a0] [] at_801 cr67_40 rfl rfl rfl rfl rfl
theorem m67_804:M67 804 ls ((.int v)::st) H Q=M67 805 ls st H Q:=w_x at_804 rfl
theorem m67_805:M67 805 ls st H Q=M67 1799 ls st H Q:=w_x at_805 rfl
theorem m67_808:M67 808 (a::c::d::f::.val (.int v4)::ls) st H Q=if v4=7 then M67 815 (a::c::d::f::.val (.int v4)::ls) st H Q else M67 831 (a::c::d::f::.val (.int v4)::ls) st H Q:=(w_x at_808 rfl).trans ((w_ki 7 at_810 rfl).trans (w_icmpN at_812 (i_ne v4 7) rfl))
theorem m67_815:M67 815 (a::.val (.ref r)::ls) st H Q=M67 816 (a::.val (.ref r)::ls) (.ref r::st) H Q:=w_x at_815 rfl
theorem m67_816:M67 816 (a::c::d::f::k::.val (.int v5)::ls) st H Q=M67 820 (a::c::d::f::k::.val (.int v5)::ls) (.int 5::.int v5::.int 1::st) H Q:=(w_ki 1 at_816 rfl).trans ((w_x at_817 rfl).trans (w_ki 5 at_819 rfl))
theorem m67_820 (a0:Int32) (a1:Int32) (u0:Int32) (u1:Nat):M67 820 ls [.int a1,.int a0,.int u0,.ref u1] H Q=M66 0 [.val (.int a0),.val (.int a1),.unset] [] H (fun v H1 => M67 823 ls (v.toList ++ [.int u0,.ref u1]) H1 Q):=wt [.int a1,.int a0] [.int u0,.ref u1] at_820 cr67_18 rfl rfl rfl rfl
theorem m67_823:M67 823 ls (.int y::.int x::st) H Q=M67 824 ls (.int (x+y)::st) H Q:=w_x at_823 rfl
theorem cr67_54:vR tables_1 dn y67 54=some (false,y29,prog_1_method_34_code,4,(some .int),1,0):=cv ⟨[.int],some .int⟩ rc_29 dn_29 dn_67
theorem m67_824:M67 824 ls [.int a0,.ref (b+1)] (put (b+1) e s A g) Q=M29 0 [.val (.ref (b+1)),.val (.int a0),.unset,.unset] [] (put (b+1) e s A g) (fun v H1 => M67 827 ls (v.toList ++ []) H1 Q):=wv [.int a0] [] at_824 cr67_54 rfl rfl rfl rfl rfl
theorem m67_827:M67 827 ls ((.int v)::st) H Q=M67 828 ls st H Q:=w_x at_827 rfl
theorem m67_828:M67 828 ls st H Q=M67 1799 ls st H Q:=w_x at_828 rfl
theorem m67_831:M67 831 (a::c::d::f::k::.val (.int v5)::ls) st H Q=if (v5 &&& 1)=1 then M67 839 (a::c::d::f::k::.val (.int v5)::ls) st H Q else M67 874 (a::c::d::f::k::.val (.int v5)::ls) st H Q:=(w_x at_831 rfl).trans ((w_ki 1 at_833 rfl).trans ((w_x at_834 rfl).trans ((w_ki 1 at_835 rfl).trans (w_icmpN at_836 (i_ne (v5 &&& 1) 1) rfl))))
theorem m67_839:M67 839 (a::c::d::f::k::.val (.int v5)::ls) st H Q=M67 844 (a::c::d::f::k::.val (.int v5)::ls) (.int 4::.int (v5 >>> (1 &&& 31))::st) H Q:=(w_x at_839 rfl).trans ((w_ki 1 at_841 rfl).trans ((w_x at_842 rfl).trans (w_ki 4 at_843 rfl)))
theorem m67_844:M67 844 ls [.int a1,.int a0] H Q=M66 0 [.val (.int a0),.val (.int a1),.unset] [] H (fun v H1 => M67 847 ls (v.toList ++ []) H1 Q):=wt [.int a1,.int a0] [] at_844 cr67_18 rfl rfl rfl rfl
theorem m67_847g (h:okS m):M67 847 (a::c::d::f::k::l::m::ls) ((.int v)::st) H Q=M67 849 (a::c::d::f::k::l::.val (.int v)::ls) st H Q:=by rcases h with rfl | ⟨z,rfl⟩ <;> exact ws 6 at_847 rfl rfl rfl rfl rfl rfl
theorem m67_849:M67 849 (a::.val (.ref r)::ls) st H Q=M67 850 (a::.val (.ref r)::ls) (.ref r::st) H Q:=w_x at_849 rfl
theorem m67_850:M67 850 (a::c::d::f::k::l::.val (.int v6)::ls) st H Q=M67 853 (a::c::d::f::k::l::.val (.int v6)::ls) (.int 0::.int v6::st) H Q:=(w_x at_850 rfl).trans (w_ki 0 at_852 rfl)
theorem cr67_57:vR tables_1 dn y67 57=some (false,y33,prog_1_method_60_code,4,(some .int),2,140):=cv ⟨[.int,.int],some .int⟩ rc_33 dn_33 dn_67
theorem m67_853:M67 853 ls [.int a1,.int a0,.ref (b+1)] (put (b+1) e s A g) Q=M33 0 [.val (.ref (b+1)),.val (.int a0),.val (.int a1),.unset] [] (put (b+1) e s A g) (fun v H1 => M67 856 ls (v.toList ++ []) H1 Q):=wv [.int a1,.int a0] [] at_853 cr67_57 rfl rfl rfl rfl rfl
theorem m67_856:M67 856 ls st H Q=M67 857 ls (.int 2::st) H Q:=w_con at_856 rfl (by decide)
theorem m67_857:M67 857 ls (.int y::.int x::st) H Q=if x=y then M67 860 ls st H Q else M67 874 ls st H Q:=w_icmpN at_857 (i_ne x y) rfl
theorem m67_860:M67 860 (a::.val (.ref r)::ls) st H Q=M67 861 (a::.val (.ref r)::ls) (.ref r::st) H Q:=w_x at_860 rfl
theorem m67_861:M67 861 ls st H Q=M67 863 ls (.int 8::st) H Q:=w_con at_861 rfl (by decide)
theorem m67_863:M67 863 (a::.val (.ref r)::ls) st H Q=M67 864 (a::.val (.ref r)::ls) (.ref r::st) H Q:=w_x at_863 rfl
theorem m67_864:M67 864 (a::c::d::f::k::l::.val (.int v6)::ls) st H Q=M67 867 (a::c::d::f::k::l::.val (.int v6)::ls) (.int 1::.int v6::st) H Q:=(w_x at_864 rfl).trans (w_ki 1 at_866 rfl)
theorem m67_867 (a0:Int32) (a1:Int32) (u0:Int32) (u1:Nat):M67 867 ls [.int a1,.int a0,.ref (b+1),.int u0,.ref u1] (put (b+1) e s A g) Q=M33 0 [.val (.ref (b+1)),.val (.int a0),.val (.int a1),.unset] [] (put (b+1) e s A g) (fun v H1 => M67 870 ls (v.toList ++ [.int u0,.ref u1]) H1 Q):=wv [.int a1,.int a0] [.int u0,.ref u1] at_867 cr67_57 rfl rfl rfl rfl rfl
theorem m67_870:M67 870 ls [.int a1,.int a0,.ref (b+1)] (put (b+1) e s A g) Q=M1 0 [.val (.ref (b+1)),.val (.int a0),.val (.int a1)] [] (put (b+1) e s A g) (fun v H1 => M67 873 ls (v.toList ++ []) H1 Q):=wv [.int a1,.int a0] [] at_870 cr67_26 rfl rfl rfl rfl rfl
theorem m67_873:M67 873 ls ((.int v)::st) H Q=M67 874 ls st H Q:=w_x at_873 rfl
theorem m67_874:M67 874 (a::.val (.ref r)::ls) st H Q=M67 875 (a::.val (.ref r)::ls) (.ref r::st) H Q:=w_x at_874 rfl
theorem m67_875:M67 875 ls st H Q=M67 877 ls (.int 8::st) H Q:=w_con at_875 rfl (by decide)
theorem m67_877:M67 877 ls [.int a0,.ref (b+1)] (put (b+1) e s A g) Q=M34 0 [.val (.ref (b+1)),.val (.int a0)] [] (put (b+1) e s A g) (fun v H1 => M67 880 ls (v.toList ++ []) H1 Q):=wv [.int a0] [] at_877 cr67_51 rfl rfl rfl rfl rfl
theorem m67_880g (h:okS m):M67 880 (a::c::d::f::k::l::m::ls) ((.int v)::st) H Q=M67 882 (a::c::d::f::k::l::.val (.int v)::ls) st H Q:=by rcases h with rfl | ⟨z,rfl⟩ <;> exact ws 6 at_880 rfl rfl rfl rfl rfl rfl
theorem m67_882:M67 882 ls st H Q=M67 883 ls (.int (-1)::st) H Q:=w_con at_882 rfl (by decide)
theorem m67_883g (h:okS n):M67 883 (a::c::d::f::k::l::m::n::ls) ((.int v)::st) H Q=M67 885 (a::c::d::f::k::l::m::.val (.int v)::ls) st H Q:=by rcases h with rfl | ⟨z,rfl⟩ <;> exact ws 7 at_883 rfl rfl rfl rfl rfl rfl
theorem m67_885:M67 885 ls st H Q=M67 886 ls (.int 0::st) H Q:=w_con at_885 rfl (by decide)
theorem m67_886g (h:okS o):M67 886 (a::c::d::f::k::l::m::n::o::ls) ((.int v)::st) H Q=M67 888 (a::c::d::f::k::l::m::n::.val (.int v)::ls) st H Q:=by rcases h with rfl | ⟨z,rfl⟩ <;> exact ws 8 at_886 rfl rfl rfl rfl rfl rfl
theorem m67_888:M67 888 (a::c::d::f::k::l::m::n::.val (.int v8)::ls) st H Q=if v8 < 4 then M67 894 (a::c::d::f::k::l::m::n::.val (.int v8)::ls) st H Q else M67 927 (a::c::d::f::k::l::m::n::.val (.int v8)::ls) st H Q:=(w_x at_888 rfl).trans ((w_ki 4 at_890 rfl).trans (w_icmpN at_891 (i_ge v8 4) rfl))
theorem m67_894:M67 894 (a::.val (.ref r)::ls) st H Q=M67 895 (a::.val (.ref r)::ls) (.ref r::st) H Q:=w_x at_894 rfl
theorem m67_895:M67 895 (a::c::d::f::k::l::m::n::.val (.int v8)::ls) st H Q=M67 898 (a::c::d::f::k::l::m::n::.val (.int v8)::ls) (.int 0::.int v8::st) H Q:=(w_x at_895 rfl).trans (w_ki 0 at_897 rfl)
theorem m67_898:M67 898 ls [.int a1,.int a0,.ref (b+1)] (put (b+1) e s A g) Q=M33 0 [.val (.ref (b+1)),.val (.int a0),.val (.int a1),.unset] [] (put (b+1) e s A g) (fun v H1 => M67 901 ls (v.toList ++ []) H1 Q):=wv [.int a1,.int a0] [] at_898 cr67_57 rfl rfl rfl rfl rfl
theorem m67_901:M67 901 ls st H Q=M67 902 ls (.int 2::st) H Q:=w_con at_901 rfl (by decide)
theorem m67_902:M67 902 ls (.int y::.int x::st) H Q=if x=y then M67 905 ls st H Q else M67 921 ls st H Q:=w_icmpN at_902 (i_ne x y) rfl
theorem m67_905:M67 905 (a::.val (.ref r)::ls) st H Q=M67 906 (a::.val (.ref r)::ls) (.ref r::st) H Q:=w_x at_905 rfl
theorem m67_906:M67 906 (a::c::d::f::k::l::m::n::.val (.int v8)::ls) st H Q=M67 909 (a::c::d::f::k::l::m::n::.val (.int v8)::ls) (.int 1::.int v8::st) H Q:=(w_x at_906 rfl).trans (w_ki 1 at_908 rfl)
theorem m67_909:M67 909 ls [.int a1,.int a0,.ref (b+1)] (put (b+1) e s A g) Q=M33 0 [.val (.ref (b+1)),.val (.int a0),.val (.int a1),.unset] [] (put (b+1) e s A g) (fun v H1 => M67 912 ls (v.toList ++ []) H1 Q):=wv [.int a1,.int a0] [] at_909 cr67_57 rfl rfl rfl rfl rfl
theorem m67_912:M67 912 (a::c::d::f::k::l::.val (.int v)::ls) st H Q=M67 914 (a::c::d::f::k::l::.val (.int v)::ls) (.int v::st) H Q:=w_x at_912 rfl
theorem m67_914:M67 914 ls (.int y::.int x::st) H Q=if x=y then M67 917 ls st H Q else M67 921 ls st H Q:=w_icmpN at_914 (i_ne x y) rfl
theorem m67_917:M67 917 (a::c::d::f::k::l::m::.val (.int z)::.val (.int v8)::ls) st H Q=M67 921 (a::c::d::f::k::l::m::.val (.int v8)::.val (.int v8)::ls) st H Q:=(w_x at_917 rfl).trans (ws 7 at_919 rfl rfl rfl rfl rfl rfl)
theorem m67_921:M67 921 (a::c::d::f::k::l::m::n::.val (.int v8)::ls) st H Q=M67 888 (a::c::d::f::k::l::m::n::.val (.int (v8+1))::ls) st H Q:=(w_iinc at_921 rfl (by decide) rfl).trans (w_x at_924 rfl)
theorem m67_927:M67 927 (a::c::d::f::k::l::m::.val (.int v7)::ls) st H Q=if v7 < 0 then M67 972 (a::c::d::f::k::l::m::.val (.int v7)::ls) st H Q else M67 932 (a::c::d::f::k::l::m::.val (.int v7)::ls) st H Q:=(w_x at_927 rfl).trans (w_if at_929 (z_lt v7) rfl)
theorem m67_932:M67 932 (a::.val (.ref r)::ls) st H Q=M67 933 (a::.val (.ref r)::ls) (.ref r::st) H Q:=w_x at_932 rfl
theorem m67_933:M67 933 ls st H Q=M67 934 ls (.int 0::st) H Q:=w_con at_933 rfl (by decide)
theorem cr67_60:vR tables_1 dn y67 60=some (false,y38,prog_1_method_58_code,2,(some .int),1,144):=cv ⟨[.int],some .int⟩ rc_38 dn_38 dn_67
theorem m67_934:M67 934 ls [.int a0,.ref (b+1)] (put (b+1) e s A g) Q=M38 0 [.val (.ref (b+1)),.val (.int a0)] [] (put (b+1) e s A g) (fun v H1 => M67 937 ls (v.toList ++ []) H1 Q):=wv [.int a0] [] at_934 cr67_60 rfl rfl rfl rfl rfl
theorem m67_937:M67 937 ls (.int x::st) H Q=if x=0 then M67 940 ls st H Q else M67 972 ls st H Q:=w_ifN at_937 (z_ne x) rfl
theorem m67_940:M67 940 (a::.val (.ref r)::ls) st H Q=M67 941 (a::.val (.ref r)::ls) (.ref r::st) H Q:=w_x at_940 rfl
theorem m67_941:M67 941 ls st H Q=M67 942 ls (.int 1::st) H Q:=w_con at_941 rfl (by decide)
theorem m67_942:M67 942 ls [.int a0,.ref (b+1)] (put (b+1) e s A g) Q=M38 0 [.val (.ref (b+1)),.val (.int a0)] [] (put (b+1) e s A g) (fun v H1 => M67 945 ls (v.toList ++ []) H1 Q):=wv [.int a0] [] at_942 cr67_60 rfl rfl rfl rfl rfl
theorem m67_945:M67 945 ls (.int x::st) H Q=if x=0 then M67 948 ls st H Q else M67 972 ls st H Q:=w_ifN at_945 (z_ne x) rfl
theorem m67_948:M67 948 (a::.val (.ref r)::ls) st H Q=M67 949 (a::.val (.ref r)::ls) (.ref r::st) H Q:=w_x at_948 rfl
theorem m67_949:M67 949 ls st H Q=M67 951 ls (.int 10::st) H Q:=w_con at_949 rfl (by decide)
theorem m67_951:M67 951 ls [.int a0,.ref (b+1)] (put (b+1) e s A g) Q=M38 0 [.val (.ref (b+1)),.val (.int a0)] [] (put (b+1) e s A g) (fun v H1 => M67 954 ls (v.toList ++ []) H1 Q):=wv [.int a0] [] at_951 cr67_60 rfl rfl rfl rfl rfl
theorem m67_954:M67 954 ls (.int x::st) H Q=if x=0 then M67 981 ls st H Q else M67 957 ls st H Q:=w_if at_954 (z_eq x) rfl
theorem m67_957:M67 957 (a::.val (.ref r)::ls) st H Q=M67 958 (a::.val (.ref r)::ls) (.ref r::st) H Q:=w_x at_957 rfl
theorem m67_958:M67 958 ls st H Q=M67 960 ls (.int 6::st) H Q:=w_con at_958 rfl (by decide)
theorem m67_960:M67 960 ls [.int a0,.ref (b+1)] (put (b+1) e s A g) Q=M38 0 [.val (.ref (b+1)),.val (.int a0)] [] (put (b+1) e s A g) (fun v H1 => M67 963 ls (v.toList ++ []) H1 Q):=wv [.int a0] [] at_960 cr67_60 rfl rfl rfl rfl rfl
theorem m67_963:M67 963 (a::.val (.ref r)::ls) st H Q=M67 964 (a::.val (.ref r)::ls) (.ref r::st) H Q:=w_x at_963 rfl
theorem m67_964:M67 964 ls st H Q=M67 966 ls (.int 9::st) H Q:=w_con at_964 rfl (by decide)
theorem m67_966:M67 966 ls [.int a0,.ref (b+1),.int u0] (put (b+1) e s A g) Q=M38 0 [.val (.ref (b+1)),.val (.int a0)] [] (put (b+1) e s A g) (fun v H1 => M67 969 ls (v.toList ++ [.int u0]) H1 Q):=wv [.int a0] [.int u0] at_966 cr67_60 rfl rfl rfl rfl rfl
theorem m67_969:M67 969 ls (.int y::.int x::st) H Q=if x < y then M67 981 ls st H Q else M67 972 ls st H Q:=w_icmp at_969 (i_lt x y) rfl
theorem m67_972:M67 972 (a::.val (.ref r)::ls) st H Q=M67 973 (a::.val (.ref r)::ls) (.ref r::st) H Q:=w_x at_972 rfl
theorem m67_973:M67 973 ls st H Q=M67 974 ls (.int 1::st) H Q:=w_con at_973 rfl (by decide)
theorem m67_974:M67 974 ls [.int a0,.ref (b+1)] (put (b+1) e s A g) Q=M29 0 [.val (.ref (b+1)),.val (.int a0),.unset,.unset] [] (put (b+1) e s A g) (fun v H1 => M67 977 ls (v.toList ++ []) H1 Q):=wv [.int a0] [] at_974 cr67_54 rfl rfl rfl rfl rfl
theorem m67_977:M67 977 ls ((.int v)::st) H Q=M67 978 ls st H Q:=w_x at_977 rfl
theorem m67_978:M67 978 ls st H Q=M67 30 ls st H Q:=w_x at_978 rfl
theorem m67_981:M67 981 (a::.val (.ref r)::ls) st H Q=M67 982 (a::.val (.ref r)::ls) (.ref r::st) H Q:=w_x at_981 rfl
theorem m67_982:M67 982 (a::c::d::f::k::l::m::.val (.int v7)::ls) st H Q=M67 985 (a::c::d::f::k::l::m::.val (.int v7)::ls) (.int 4::.int v7::st) H Q:=(w_x at_982 rfl).trans (w_ki 4 at_984 rfl)
theorem m67_985:M67 985 ls [.int a1,.int a0,.ref (b+1)] (put (b+1) e s A g) Q=M33 0 [.val (.ref (b+1)),.val (.int a0),.val (.int a1),.unset] [] (put (b+1) e s A g) (fun v H1 => M67 988 ls (v.toList ++ []) H1 Q):=wv [.int a1,.int a0] [] at_985 cr67_57 rfl rfl rfl rfl rfl
theorem m67_988i:M67 988 (a::c::d::f::k::l::m::n::.val (.int z)::ls) ((.int v)::st) H Q=M67 990 (a::c::d::f::k::l::m::n::.val (.int v)::ls) st H Q:=ws 8 at_988 rfl rfl rfl rfl rfl rfl
theorem m67_990:M67 990 (a::.val (.ref r)::ls) st H Q=M67 991 (a::.val (.ref r)::ls) (.ref r::st) H Q:=w_x at_990 rfl
theorem m67_991:M67 991 (a::c::d::f::k::l::m::.val (.int v7)::ls) st H Q=M67 994 (a::c::d::f::k::l::m::.val (.int v7)::ls) (.int 0::.int v7::st) H Q:=(w_x at_991 rfl).trans (w_ki 0 at_993 rfl)
theorem cr67_63:vR tables_1 dn y67 63=some (false,y40,prog_1_method_43_code,4,(some .int),2,62):=cv ⟨[.int,.int],some .int⟩ rc_40 dn_40 dn_67
theorem m67_994:M67 994 ls [.int a1,.int a0,.ref (b+1)] (put (b+1) e s A g) Q=M40 0 [.val (.ref (b+1)),.val (.int a0),.val (.int a1),.unset] [] (put (b+1) e s A g) (fun v H1 => M67 997 ls (v.toList ++ []) H1 Q):=wv [.int a1,.int a0] [] at_994 cr67_63 rfl rfl rfl rfl rfl
theorem m67_997g (h:okS p):M67 997 (a::c::d::f::k::l::m::n::o::p::ls) ((.int v)::st) H Q=M67 999 (a::c::d::f::k::l::m::n::o::.val (.int v)::ls) st H Q:=by rcases h with rfl | ⟨z,rfl⟩ <;> exact ws 9 at_997 rfl rfl rfl rfl rfl rfl
theorem m67_999:M67 999 (a::.val (.ref r)::ls) st H Q=M67 1000 (a::.val (.ref r)::ls) (.ref r::st) H Q:=w_x at_999 rfl
theorem m67_1000:M67 1000 ls st H Q=M67 1001 ls (.int 5::st) H Q:=w_con at_1000 rfl (by decide)
theorem m67_1001:M67 1001 ls [.int a0,.ref (b+1)] (put (b+1) e s A g) Q=M38 0 [.val (.ref (b+1)),.val (.int a0)] [] (put (b+1) e s A g) (fun v H1 => M67 1004 ls (v.toList ++ []) H1 Q):=wv [.int a0] [] at_1001 cr67_60 rfl rfl rfl rfl rfl
theorem m67_1004g (h:okS t):M67 1004 (a::c::d::f::k::l::m::n::o::p::t::ls) ((.int v)::st) H Q=M67 1006 (a::c::d::f::k::l::m::n::o::p::.val (.int v)::ls) st H Q:=by rcases h with rfl | ⟨z,rfl⟩ <;> exact ws 10 at_1004 rfl rfl rfl rfl rfl rfl
theorem m67_1006:M67 1006 ls st H Q=M67 1007 ls (.int 0::st) H Q:=w_con at_1006 rfl (by decide)
theorem m67_1007g (h:okS u):M67 1007 (a::c::d::f::k::l::m::n::o::p::t::u::ls) ((.int v)::st) H Q=M67 1009 (a::c::d::f::k::l::m::n::o::p::t::.val (.int v)::ls) st H Q:=by rcases h with rfl | ⟨z,rfl⟩ <;> exact ws 11 at_1007 rfl rfl rfl rfl rfl rfl
theorem m67_1009:M67 1009 ls st H Q=M67 1010 ls (.int 0::st) H Q:=w_con at_1009 rfl (by decide)
theorem m67_1010g (h:okS w):M67 1010 (a::c::d::f::k::l::m::n::o::p::t::u::w::ls) ((.int v)::st) H Q=M67 1012 (a::c::d::f::k::l::m::n::o::p::t::u::.val (.int v)::ls) st H Q:=by rcases h with rfl | ⟨z,rfl⟩ <;> exact ws 12 at_1010 rfl rfl rfl rfl rfl rfl
theorem m67_1012:M67 1012 ls st H Q=M67 1013 ls (.int 0::st) H Q:=w_con at_1012 rfl (by decide)
theorem m67_1013g (h:okS C):M67 1013 (a::c::d::f::k::l::m::n::o::p::t::u::w::C::ls) ((.int v)::st) H Q=M67 1015 (a::c::d::f::k::l::m::n::o::p::t::u::w::.val (.int v)::ls) st H Q:=by rcases h with rfl | ⟨z,rfl⟩ <;> exact ws 13 at_1013 rfl rfl rfl rfl rfl rfl
theorem m67_1015:M67 1015 ls st H Q=M67 1016 ls (.int 0::st) H Q:=w_con at_1015 rfl (by decide)
theorem m67_1016g (h:okS E):M67 1016 (a::c::d::f::k::l::m::n::o::p::t::u::w::C::E::ls) ((.int v)::st) H Q=M67 1018 (a::c::d::f::k::l::m::n::o::p::t::u::w::C::.val (.int v)::ls) st H Q:=by rcases h with rfl | ⟨z,rfl⟩ <;> exact ws 14 at_1016 rfl rfl rfl rfl rfl rfl
theorem m67_1018:M67 1018 ls st H Q=M67 1019 ls (.int 0::st) H Q:=w_con at_1018 rfl (by decide)
theorem m67_1019g (h:okS F):M67 1019 (a::c::d::f::k::l::m::n::o::p::t::u::w::C::E::F::ls) ((.int v)::st) H Q=M67 1021 (a::c::d::f::k::l::m::n::o::p::t::u::w::C::E::.val (.int v)::ls) st H Q:=by rcases h with rfl | ⟨z,rfl⟩ <;> exact ws 15 at_1019 rfl rfl rfl rfl rfl rfl
theorem m67_1021:M67 1021 ls st H Q=M67 1022 ls (.int 0::st) H Q:=w_con at_1021 rfl (by decide)
theorem m67_1022g (h:okS G):M67 1022 (a::c::d::f::k::l::m::n::o::p::t::u::w::C::E::F::G::ls) ((.int v)::st) H Q=M67 1024 (a::c::d::f::k::l::m::n::o::p::t::u::w::C::E::F::.val (.int v)::ls) st H Q:=by rcases h with rfl | ⟨z,rfl⟩ <;> exact ws 16 at_1022 rfl rfl rfl rfl rfl rfl
theorem m67_1024:M67 1024 (a::c::d::f::k::l::m::n::.val (.int v8)::ls) st H Q=if 1 < v8 then M67 1030 (a::c::d::f::k::l::m::n::.val (.int v8)::ls) st H Q else M67 1046 (a::c::d::f::k::l::m::n::.val (.int v8)::ls) st H Q:=(w_x at_1024 rfl).trans ((w_ki 1 at_1026 rfl).trans (w_icmpN at_1027 (i_le v8 1) rfl))
theorem m67_1030:M67 1030 (a::.val (.ref r)::ls) st H Q=M67 1031 (a::.val (.ref r)::ls) (.ref r::st) H Q:=w_x at_1030 rfl
theorem m67_1031:M67 1031 (a::c::d::f::k::l::m::.val (.int v7)::ls) st H Q=M67 1034 (a::c::d::f::k::l::m::.val (.int v7)::ls) (.int 1::.int v7::st) H Q:=(w_x at_1031 rfl).trans (w_ki 1 at_1033 rfl)
theorem m67_1034:M67 1034 ls [.int a1,.int a0,.ref (b+1)] (put (b+1) e s A g) Q=M40 0 [.val (.ref (b+1)),.val (.int a0),.val (.int a1),.unset] [] (put (b+1) e s A g) (fun v H1 => M67 1037 ls (v.toList ++ []) H1 Q):=wv [.int a1,.int a0] [] at_1034 cr67_63 rfl rfl rfl rfl rfl
theorem m67_1037i:M67 1037 (a::c::d::f::k::l::m::n::o::p::t::.val (.int z)::ls) ((.int v)::st) H Q=M67 1039 (a::c::d::f::k::l::m::n::o::p::t::.val (.int v)::ls) st H Q:=ws 11 at_1037 rfl rfl rfl rfl rfl rfl
theorem m67_1039:M67 1039 (a::.val (.ref r)::ls) st H Q=M67 1040 (a::.val (.ref r)::ls) (.ref r::st) H Q:=w_x at_1039 rfl
theorem m67_1040:M67 1040 ls st H Q=M67 1041 ls (.int 5::st) H Q:=w_con at_1040 rfl (by decide)
theorem m67_1041:M67 1041 ls [.int a0,.ref (b+1)] (put (b+1) e s A g) Q=M38 0 [.val (.ref (b+1)),.val (.int a0)] [] (put (b+1) e s A g) (fun v H1 => M67 1044 ls (v.toList ++ []) H1 Q):=wv [.int a0] [] at_1041 cr67_60 rfl rfl rfl rfl rfl
theorem m67_1044i:M67 1044 (a::c::d::f::k::l::m::n::o::p::t::u::w::C::.val (.int z)::ls) ((.int v)::st) H Q=M67 1046 (a::c::d::f::k::l::m::n::o::p::t::u::w::C::.val (.int v)::ls) st H Q:=ws 14 at_1044 rfl rfl rfl rfl rfl rfl
theorem m67_1046:M67 1046 (a::c::d::f::k::l::m::n::.val (.int v8)::ls) st H Q=if 2 < v8 then M67 1052 (a::c::d::f::k::l::m::n::.val (.int v8)::ls) st H Q else M67 1068 (a::c::d::f::k::l::m::n::.val (.int v8)::ls) st H Q:=(w_x at_1046 rfl).trans ((w_ki 2 at_1048 rfl).trans (w_icmpN at_1049 (i_le v8 2) rfl))
theorem m67_1052:M67 1052 (a::.val (.ref r)::ls) st H Q=M67 1053 (a::.val (.ref r)::ls) (.ref r::st) H Q:=w_x at_1052 rfl
theorem m67_1053:M67 1053 (a::c::d::f::k::l::m::.val (.int v7)::ls) st H Q=M67 1056 (a::c::d::f::k::l::m::.val (.int v7)::ls) (.int 2::.int v7::st) H Q:=(w_x at_1053 rfl).trans (w_ki 2 at_1055 rfl)
theorem m67_1056:M67 1056 ls [.int a1,.int a0,.ref (b+1)] (put (b+1) e s A g) Q=M40 0 [.val (.ref (b+1)),.val (.int a0),.val (.int a1),.unset] [] (put (b+1) e s A g) (fun v H1 => M67 1059 ls (v.toList ++ []) H1 Q):=wv [.int a1,.int a0] [] at_1056 cr67_63 rfl rfl rfl rfl rfl
theorem m67_1059i:M67 1059 (a::c::d::f::k::l::m::n::o::p::t::u::.val (.int z)::ls) ((.int v)::st) H Q=M67 1061 (a::c::d::f::k::l::m::n::o::p::t::u::.val (.int v)::ls) st H Q:=ws 12 at_1059 rfl rfl rfl rfl rfl rfl
theorem m67_1061:M67 1061 (a::.val (.ref r)::ls) st H Q=M67 1062 (a::.val (.ref r)::ls) (.ref r::st) H Q:=w_x at_1061 rfl
theorem m67_1062:M67 1062 ls st H Q=M67 1063 ls (.int 5::st) H Q:=w_con at_1062 rfl (by decide)
theorem m67_1063:M67 1063 ls [.int a0,.ref (b+1)] (put (b+1) e s A g) Q=M38 0 [.val (.ref (b+1)),.val (.int a0)] [] (put (b+1) e s A g) (fun v H1 => M67 1066 ls (v.toList ++ []) H1 Q):=wv [.int a0] [] at_1063 cr67_60 rfl rfl rfl rfl rfl
theorem m67_1066i:M67 1066 (a::c::d::f::k::l::m::n::o::p::t::u::w::C::E::.val (.int z)::ls) ((.int v)::st) H Q=M67 1068 (a::c::d::f::k::l::m::n::o::p::t::u::w::C::E::.val (.int v)::ls) st H Q:=ws 15 at_1066 rfl rfl rfl rfl rfl rfl
theorem m67_1068:M67 1068 (a::c::d::f::k::l::m::n::.val (.int v8)::ls) st H Q=if 3 < v8 then M67 1074 (a::c::d::f::k::l::m::n::.val (.int v8)::ls) st H Q else M67 1090 (a::c::d::f::k::l::m::n::.val (.int v8)::ls) st H Q:=(w_x at_1068 rfl).trans ((w_ki 3 at_1070 rfl).trans (w_icmpN at_1071 (i_le v8 3) rfl))
theorem m67_1074:M67 1074 (a::.val (.ref r)::ls) st H Q=M67 1075 (a::.val (.ref r)::ls) (.ref r::st) H Q:=w_x at_1074 rfl
theorem m67_1075:M67 1075 (a::c::d::f::k::l::m::.val (.int v7)::ls) st H Q=M67 1078 (a::c::d::f::k::l::m::.val (.int v7)::ls) (.int 3::.int v7::st) H Q:=(w_x at_1075 rfl).trans (w_ki 3 at_1077 rfl)
theorem m67_1078:M67 1078 ls [.int a1,.int a0,.ref (b+1)] (put (b+1) e s A g) Q=M40 0 [.val (.ref (b+1)),.val (.int a0),.val (.int a1),.unset] [] (put (b+1) e s A g) (fun v H1 => M67 1081 ls (v.toList ++ []) H1 Q):=wv [.int a1,.int a0] [] at_1078 cr67_63 rfl rfl rfl rfl rfl
theorem m67_1081i:M67 1081 (a::c::d::f::k::l::m::n::o::p::t::u::w::.val (.int z)::ls) ((.int v)::st) H Q=M67 1083 (a::c::d::f::k::l::m::n::o::p::t::u::w::.val (.int v)::ls) st H Q:=ws 13 at_1081 rfl rfl rfl rfl rfl rfl
theorem m67_1083:M67 1083 (a::.val (.ref r)::ls) st H Q=M67 1084 (a::.val (.ref r)::ls) (.ref r::st) H Q:=w_x at_1083 rfl
theorem m67_1084:M67 1084 ls st H Q=M67 1085 ls (.int 5::st) H Q:=w_con at_1084 rfl (by decide)
theorem m67_1085:M67 1085 ls [.int a0,.ref (b+1)] (put (b+1) e s A g) Q=M38 0 [.val (.ref (b+1)),.val (.int a0)] [] (put (b+1) e s A g) (fun v H1 => M67 1088 ls (v.toList ++ []) H1 Q):=wv [.int a0] [] at_1085 cr67_60 rfl rfl rfl rfl rfl
theorem m67_1088i:M67 1088 (a::c::d::f::k::l::m::n::o::p::t::u::w::C::E::F::.val (.int z)::ls) ((.int v)::st) H Q=M67 1090 (a::c::d::f::k::l::m::n::o::p::t::u::w::C::E::F::.val (.int v)::ls) st H Q:=ws 16 at_1088 rfl rfl rfl rfl rfl rfl
theorem m67_1090:M67 1090 (a::.val (.ref r)::ls) st H Q=M67 1091 (a::.val (.ref r)::ls) (.ref r::st) H Q:=w_x at_1090 rfl
theorem m67_1091:M67 1091 (a::c::d::f::k::l::m::.val (.int v7)::ls) st H Q=M67 1094 (a::c::d::f::k::l::m::.val (.int v7)::ls) (.int 3::.int v7::st) H Q:=(w_x at_1091 rfl).trans (w_ki 3 at_1093 rfl)
theorem m67_1094:M67 1094 ls [.int a1,.int a0,.ref (b+1)] (put (b+1) e s A g) Q=M33 0 [.val (.ref (b+1)),.val (.int a0),.val (.int a1),.unset] [] (put (b+1) e s A g) (fun v H1 => M67 1097 ls (v.toList ++ []) H1 Q):=wv [.int a1,.int a0] [] at_1094 cr67_57 rfl rfl rfl rfl rfl
theorem m67_1097g (h:okS I):M67 1097 (a::c::d::f::k::l::m::n::o::p::t::u::w::C::E::F::G::I::ls) ((.int v)::st) H Q=M67 1099 (a::c::d::f::k::l::m::n::o::p::t::u::w::C::E::F::G::.val (.int v)::ls) st H Q:=by rcases h with rfl | ⟨z,rfl⟩ <;> exact ws 17 at_1097 rfl rfl rfl rfl rfl rfl
theorem m67_1099:M67 1099 (a::.val (.ref r)::ls) st H Q=M67 1100 (a::.val (.ref r)::ls) (.ref r::st) H Q:=w_x at_1099 rfl
theorem m67_1100:M67 1100 ls st H Q=M67 1102 ls (.int 11::st) H Q:=w_con at_1100 rfl (by decide)
theorem m67_1102:M67 1102 ls [.int a0,.ref (b+1)] (put (b+1) e s A g) Q=M38 0 [.val (.ref (b+1)),.val (.int a0)] [] (put (b+1) e s A g) (fun v H1 => M67 1105 ls (v.toList ++ []) H1 Q):=wv [.int a0] [] at_1102 cr67_60 rfl rfl rfl rfl rfl
theorem m67_1105g (h:okS K):M67 1105 (a::c::d::f::k::l::m::n::o::p::t::u::w::C::E::F::G::I::K::ls) ((.int v)::st) H Q=M67 1107 (a::c::d::f::k::l::m::n::o::p::t::u::w::C::E::F::G::I::.val (.int v)::ls) st H Q:=by rcases h with rfl | ⟨z,rfl⟩ <;> exact ws 18 at_1105 rfl rfl rfl rfl rfl rfl
theorem m67_1107:M67 1107 (a::.val (.ref r)::ls) st H Q=M67 1108 (a::.val (.ref r)::ls) (.ref r::st) H Q:=w_x at_1107 rfl
theorem m67_1108:M67 1108 (a::c::d::f::k::l::m::.val (.int v7)::ls) st H Q=M67 1111 (a::c::d::f::k::l::m::.val (.int v7)::ls) (.int 2::.int v7::st) H Q:=(w_x at_1108 rfl).trans (w_ki 2 at_1110 rfl)
theorem m67_1111:M67 1111 ls [.int a1,.int a0,.ref (b+1)] (put (b+1) e s A g) Q=M33 0 [.val (.ref (b+1)),.val (.int a0),.val (.int a1),.unset] [] (put (b+1) e s A g) (fun v H1 => M67 1114 ls (v.toList ++ []) H1 Q):=wv [.int a1,.int a0] [] at_1111 cr67_57 rfl rfl rfl rfl rfl
theorem m67_1114g (h:okS N):M67 1114 (a::c::d::f::k::l::m::n::o::p::t::u::w::C::E::F::G::I::K::N::ls) ((.int v)::st) H Q=M67 1116 (a::c::d::f::k::l::m::n::o::p::t::u::w::C::E::F::G::I::K::.val (.int v)::ls) st H Q:=by rcases h with rfl | ⟨z,rfl⟩ <;> exact ws 19 at_1114 rfl rfl rfl rfl rfl rfl
theorem m67_1116:M67 1116 (a::.val (.ref r)::ls) st H Q=M67 1117 (a::.val (.ref r)::ls) (.ref r::st) H Q:=w_x at_1116 rfl
theorem m67_1117:M67 1117 ls st H Q=M67 1119 ls (.int 6::st) H Q:=w_con at_1117 rfl (by decide)
theorem m67_1119:M67 1119 ls [.int a0,.ref (b+1)] (put (b+1) e s A g) Q=M38 0 [.val (.ref (b+1)),.val (.int a0)] [] (put (b+1) e s A g) (fun v H1 => M67 1122 ls (v.toList ++ []) H1 Q):=wv [.int a0] [] at_1119 cr67_60 rfl rfl rfl rfl rfl
theorem m67_1122:M67 1122 ls (.int x::st) H Q=M67 1123 ls (.long x.toInt64::st) H Q:=w_x at_1122 rfl
theorem m67_1123:M67 1123 ls st H Q=M67 1126 ls (.long 1000003::st) H Q:=w_ldc2 at_1123 (by decide +kernel)
theorem m67_1126:M67 1126 ls (.long J2::.long J1::st) H Q=M67 1127 ls (.long (J1 * J2)::st) H Q:=w_x at_1126 rfl
theorem m67_1127:M67 1127 (a::.val (.ref r)::ls) st H Q=M67 1128 (a::.val (.ref r)::ls) (.ref r::st) H Q:=w_x at_1127 rfl
theorem m67_1128:M67 1128 ls st H Q=M67 1130 ls (.int 7::st) H Q:=w_con at_1128 rfl (by decide)
theorem m67_1130 (a0:Int32) (u0:Int64):M67 1130 ls [.int a0,.ref (b+1),.long u0] (put (b+1) e s A g) Q=M38 0 [.val (.ref (b+1)),.val (.int a0)] [] (put (b+1) e s A g) (fun v H1 => M67 1133 ls (v.toList ++ [.long u0]) H1 Q):=wv [.int a0] [.long u0] at_1130 cr67_60 rfl rfl rfl rfl rfl
theorem m67_1133:M67 1133 ls (.int x::st) H Q=M67 1134 ls (.long x.toInt64::st) H Q:=w_x at_1133 rfl
theorem m67_1134:M67 1134 ls (.long J2::.long J1::st) H Q=M67 1135 ls (.long (J1+J2)::st) H Q:=w_x at_1134 rfl
theorem m67_1135:M67 1135 (a::c::d::f::k::l::m::n::o::p::t::u::w::C::E::F::G::I::K::N::.unset::.unset::ls) (.long J1::st) H Q=M67 1137 (a::c::d::f::k::l::m::n::o::p::t::u::w::C::E::F::G::I::K::N::.val (.long J1)::.second::ls) st H Q:=w_x at_1135 rfl
theorem m67_1137:M67 1137 ls st H Q=M67 1138 ls (.int 0::st) H Q:=w_con at_1137 rfl (by decide)
theorem m67_1138g (h:okS S):M67 1138 (a::c::d::f::k::l::m::n::o::p::t::u::w::C::E::F::G::I::K::N::O::P::S::ls) ((.int v)::st) H Q=M67 1140 (a::c::d::f::k::l::m::n::o::p::t::u::w::C::E::F::G::I::K::N::O::P::.val (.int v)::ls) st H Q:=by rcases h with rfl | ⟨z,rfl⟩ <;> exact ws 22 at_1138 rfl rfl rfl rfl rfl rfl
theorem m67_1140:M67 1140 (a::c::d::f::k::l::m::n::o::p::t::u::w::C::E::F::G::I::K::N::O::P::.val (.int v)::ls) st H Q=M67 1142 (a::c::d::f::k::l::m::n::o::p::t::u::w::C::E::F::G::I::K::N::O::P::.val (.int v)::ls) (.int v::st) H Q:=w_x at_1140 rfl
theorem m67_1142:M67 1142 (a::.val (.ref r)::ls) st H Q=M67 1143 (a::.val (.ref r)::ls) (.ref r::st) H Q:=w_x at_1142 rfl
theorem m67_1143:M67 1143 ls st H Q=M67 1145 ls (.int 6::st) H Q:=w_con at_1143 rfl (by decide)
theorem m67_1145:M67 1145 ls [.int a0,.ref (b+1),.int u0] (put (b+1) e s A g) Q=M38 0 [.val (.ref (b+1)),.val (.int a0)] [] (put (b+1) e s A g) (fun v H1 => M67 1148 ls (v.toList ++ [.int u0]) H1 Q):=wv [.int a0] [.int u0] at_1145 cr67_60 rfl rfl rfl rfl rfl
theorem m67_1148:M67 1148 ls (.int y::.int x::st) H Q=if x < y then M67 1151 ls st H Q else M67 1191 ls st H Q:=w_icmpN at_1148 (i_ge x y) rfl
theorem m67_1151:M67 1151 ls st H Q=M67 1152 ls (.int 0::st) H Q:=w_con at_1151 rfl (by decide)
theorem m67_1152g (h:okS T):M67 1152 (a::c::d::f::k::l::m::n::o::p::t::u::w::C::E::F::G::I::K::N::O::P::S::T::ls) ((.int v)::st) H Q=M67 1154 (a::c::d::f::k::l::m::n::o::p::t::u::w::C::E::F::G::I::K::N::O::P::S::.val (.int v)::ls) st H Q:=by rcases h with rfl | ⟨z,rfl⟩ <;> exact ws 23 at_1152 rfl rfl rfl rfl rfl rfl
theorem m67_1154:M67 1154 (a::c::d::f::k::l::m::n::o::p::t::u::w::C::E::F::G::I::K::N::O::P::S::.val (.int v23)::ls) st H Q=if v23 < 8 then M67 1161 (a::c::d::f::k::l::m::n::o::p::t::u::w::C::E::F::G::I::K::N::O::P::S::.val (.int v23)::ls) st H Q else M67 1185 (a::c::d::f::k::l::m::n::o::p::t::u::w::C::E::F::G::I::K::N::O::P::S::.val (.int v23)::ls) st H Q:=(w_x at_1154 rfl).trans ((w_ki 8 at_1156 rfl).trans (w_icmpN at_1158 (i_ge v23 8) rfl))
theorem m67_1161:M67 1161 (a::c::d::f::k::l::m::n::o::p::t::u::w::C::E::F::G::I::K::N::.val (.long w20)::ls) st H Q=M67 1167 (a::c::d::f::k::l::m::n::o::p::t::u::w::C::E::F::G::I::K::N::.val (.long w20)::ls) (.long (w20 * 1000003)::st) H Q:=(w_x at_1161 rfl).trans ((w_ldc2 (v:=1000003) at_1163 (by decide +kernel)).trans (w_x at_1166 rfl))
theorem m67_1167:M67 1167 (a::.val (.ref r)::ls) st H Q=M67 1168 (a::.val (.ref r)::ls) (.ref r::st) H Q:=w_x at_1167 rfl
theorem m67_1168:M67 1168 (a::c::d::f::k::l::m::n::o::p::t::u::w::C::E::F::G::I::K::N::O::P::.val (.int v22)::.val (.int v23)::ls) st H Q=M67 1172 (a::c::d::f::k::l::m::n::o::p::t::u::w::C::E::F::G::I::K::N::O::P::.val (.int v22)::.val (.int v23)::ls) (.int v23::.int v22::st) H Q:=(w_x at_1168 rfl).trans (w_x at_1170 rfl)
theorem cr67_68:vR tables_1 dn y67 68=some (false,y54,prog_1_method_61_code,4,(some .int),2,140):=cv ⟨[.int,.int],some .int⟩ rc_54 dn_54 dn_67
theorem m67_1172 (a0:Int32) (a1:Int32) (u0:Int64):M67 1172 ls [.int a1,.int a0,.ref (b+1),.long u0] (put (b+1) e s A g) Q=M54 0 [.val (.ref (b+1)),.val (.int a0),.val (.int a1),.unset] [] (put (b+1) e s A g) (fun v H1 => M67 1175 ls (v.toList ++ [.long u0]) H1 Q):=wv [.int a1,.int a0] [.long u0] at_1172 cr67_68 rfl rfl rfl rfl rfl
theorem m67_1175:M67 1175 ls (.int x::st) H Q=M67 1176 ls (.long x.toInt64::st) H Q:=w_x at_1175 rfl
theorem m67_1176:M67 1176 ls (.long J2::.long J1::st) H Q=M67 1177 ls (.long (J1+J2)::st) H Q:=w_x at_1176 rfl
theorem m67_1177:M67 1177 (a::c::d::f::k::l::m::n::o::p::t::u::w::C::E::F::G::I::K::N::.val (.long J2)::.second::ls) (.long J1::st) H Q=M67 1179 (a::c::d::f::k::l::m::n::o::p::t::u::w::C::E::F::G::I::K::N::.val (.long J1)::.second::ls) st H Q:=w_x at_1177 rfl
theorem m67_1179:M67 1179 (a::c::d::f::k::l::m::n::o::p::t::u::w::C::E::F::G::I::K::N::O::P::S::.val (.int v23)::ls) st H Q=M67 1154 (a::c::d::f::k::l::m::n::o::p::t::u::w::C::E::F::G::I::K::N::O::P::S::.val (.int (v23+1))::ls) st H Q:=(w_iinc at_1179 rfl (by decide) rfl).trans (w_x at_1182 rfl)
theorem m67_1185:M67 1185 (a::c::d::f::k::l::m::n::o::p::t::u::w::C::E::F::G::I::K::N::O::P::.val (.int v22)::ls) st H Q=M67 1140 (a::c::d::f::k::l::m::n::o::p::t::u::w::C::E::F::G::I::K::N::O::P::.val (.int (v22+1))::ls) st H Q:=(w_iinc at_1185 rfl (by decide) rfl).trans (w_x at_1188 rfl)
theorem m67_1191:M67 1191 (a::c::d::f::k::l::m::n::o::p::t::u::w::C::E::F::G::I::K::N::O::P::.val (.int z)::ls) st H Q=M67 1194 (a::c::d::f::k::l::m::n::o::p::t::u::w::C::E::F::G::I::K::N::O::P::.val (.int 0)::ls) st H Q:=(w_ki 0 at_1191 rfl).trans (ws 22 at_1192 rfl rfl rfl rfl rfl rfl)
theorem m67_1194:M67 1194 (a::c::d::f::k::l::m::n::o::p::t::u::w::C::E::F::G::I::K::N::O::P::.val (.int v22)::ls) st H Q=if v22 < 8 then M67 1201 (a::c::d::f::k::l::m::n::o::p::t::u::w::C::E::F::G::I::K::N::O::P::.val (.int v22)::ls) st H Q else M67 1220 (a::c::d::f::k::l::m::n::o::p::t::u::w::C::E::F::G::I::K::N::O::P::.val (.int v22)::ls) st H Q:=(w_x at_1194 rfl).trans ((w_ki 8 at_1196 rfl).trans (w_icmpN at_1198 (i_ge v22 8) rfl))
theorem m67_1201:M67 1201 (a::c::.val (.ref r)::ls) st H Q=M67 1202 (a::c::.val (.ref r)::ls) (.ref r::st) H Q:=w_x at_1201 rfl
theorem m67_1202:M67 1202 (a::c::d::f::k::l::m::n::o::p::t::u::w::C::E::F::G::I::K::N::O::P::.val (.int v)::ls) st H Q=M67 1204 (a::c::d::f::k::l::m::n::o::p::t::u::w::C::E::F::G::I::K::N::O::P::.val (.int v)::ls) (.int v::st) H Q:=w_x at_1202 rfl
theorem m67_1204:M67 1204 (a::.val (.ref r)::ls) st H Q=M67 1205 (a::.val (.ref r)::ls) (.ref r::st) H Q:=w_x at_1204 rfl
theorem m67_1205:M67 1205 (a::c::d::f::k::l::m::n::o::p::t::u::w::C::E::F::G::I::K::N::O::P::.val (.int v)::ls) st H Q=M67 1207 (a::c::d::f::k::l::m::n::o::p::t::u::w::C::E::F::G::I::K::N::O::P::.val (.int v)::ls) (.int v::st) H Q:=w_x at_1205 rfl
theorem m67_1207 (a0:Int32) (u0:Int32) (u1:Nat):M67 1207 ls [.int a0,.ref (b+1),.int u0,.ref u1] (put (b+1) e s A g) Q=M34 0 [.val (.ref (b+1)),.val (.int a0)] [] (put (b+1) e s A g) (fun v H1 => M67 1210 ls (v.toList ++ [.int u0,.ref u1]) H1 Q):=wv [.int a0] [.int u0,.ref u1] at_1207 cr67_51 rfl rfl rfl rfl rfl
theorem m67_1210:M67 1210 ls [.int a1,.int a0,.ref (b+1)] (put (b+1) e s A g) Q=M1 0 [.val (.ref (b+1)),.val (.int a0),.val (.int a1)] [] (put (b+1) e s A g) (fun v H1 => M67 1213 ls (v.toList ++ []) H1 Q):=wv [.int a1,.int a0] [] at_1210 cr67_26 rfl rfl rfl rfl rfl
theorem m67_1213:M67 1213 ls ((.int v)::st) H Q=M67 1214 ls st H Q:=w_x at_1213 rfl
theorem m67_1214:M67 1214 (a::c::d::f::k::l::m::n::o::p::t::u::w::C::E::F::G::I::K::N::O::P::.val (.int v22)::ls) st H Q=M67 1194 (a::c::d::f::k::l::m::n::o::p::t::u::w::C::E::F::G::I::K::N::O::P::.val (.int (v22+1))::ls) st H Q:=(w_iinc at_1214 rfl (by decide) rfl).trans (w_x at_1217 rfl)
theorem m67_1220:M67 1220 (a::c::d::f::k::l::m::n::o::p::t::u::w::C::E::F::G::I::K::N::O::P::.val (.int z)::ls) st H Q=M67 1223 (a::c::d::f::k::l::m::n::o::p::t::u::w::C::E::F::G::I::K::N::O::P::.val (.int 0)::ls) st H Q:=(w_ki 0 at_1220 rfl).trans (ws 22 at_1221 rfl rfl rfl rfl rfl rfl)
theorem m67_1223:M67 1223 (a::c::d::f::k::l::m::n::o::p::t::u::w::C::E::F::G::I::K::N::O::P::.val (.int v22)::ls) st H Q=if v22 < 32 then M67 1230 (a::c::d::f::k::l::m::n::o::p::t::u::w::C::E::F::G::I::K::N::O::P::.val (.int v22)::ls) st H Q else M67 1249 (a::c::d::f::k::l::m::n::o::p::t::u::w::C::E::F::G::I::K::N::O::P::.val (.int v22)::ls) st H Q:=(w_x at_1223 rfl).trans ((w_ki 32 at_1225 rfl).trans (w_icmpN at_1227 (i_ge v22 32) rfl))
theorem m67_1230:M67 1230 (a::c::.val (.ref r)::ls) st H Q=M67 1231 (a::c::.val (.ref r)::ls) (.ref r::st) H Q:=w_x at_1230 rfl
theorem m67_1231:M67 1231 (a::c::d::f::k::l::m::n::o::p::t::u::w::C::E::F::G::I::K::N::O::P::.val (.int v)::ls) st H Q=M67 1233 (a::c::d::f::k::l::m::n::o::p::t::u::w::C::E::F::G::I::K::N::O::P::.val (.int v)::ls) (.int v::st) H Q:=w_x at_1231 rfl
theorem m67_1233:M67 1233 (a::.val (.ref r)::ls) st H Q=M67 1234 (a::.val (.ref r)::ls) (.ref r::st) H Q:=w_x at_1233 rfl
theorem m67_1234:M67 1234 (a::c::d::f::k::l::m::n::o::p::t::u::w::C::E::F::G::I::K::N::O::P::.val (.int v)::ls) st H Q=M67 1236 (a::c::d::f::k::l::m::n::o::p::t::u::w::C::E::F::G::I::K::N::O::P::.val (.int v)::ls) (.int v::st) H Q:=w_x at_1234 rfl
theorem cr67_71:vR tables_1 dn y67 71=some (false,y49,prog_1_method_8_code,2,(some .int),1,142):=cv ⟨[.int],some .int⟩ rc_49 dn_49 dn_67
theorem m67_1236 (a0:Int32) (u0:Int32) (u1:Nat):M67 1236 ls [.int a0,.ref (b+1),.int u0,.ref u1] (put (b+1) e s A g) Q=M49 0 [.val (.ref (b+1)),.val (.int a0)] [] (put (b+1) e s A g) (fun v H1 => M67 1239 ls (v.toList ++ [.int u0,.ref u1]) H1 Q):=wv [.int a0] [.int u0,.ref u1] at_1236 cr67_71 rfl rfl rfl rfl rfl
theorem m67_1239:M67 1239 ls [.int a1,.int a0,.ref (b+1)] (put (b+1) e s A g) Q=M27 0 [.val (.ref (b+1)),.val (.int a0),.val (.int a1)] [] (put (b+1) e s A g) (fun v H1 => M67 1242 ls (v.toList ++ []) H1 Q):=wv [.int a1,.int a0] [] at_1239 cr67_30 rfl rfl rfl rfl rfl
theorem m67_1242:M67 1242 ls ((.int v)::st) H Q=M67 1243 ls st H Q:=w_x at_1242 rfl
theorem m67_1243:M67 1243 (a::c::d::f::k::l::m::n::o::p::t::u::w::C::E::F::G::I::K::N::O::P::.val (.int v22)::ls) st H Q=M67 1223 (a::c::d::f::k::l::m::n::o::p::t::u::w::C::E::F::G::I::K::N::O::P::.val (.int (v22+1))::ls) st H Q:=(w_iinc at_1243 rfl (by decide) rfl).trans (w_x at_1246 rfl)
theorem m67_1249:M67 1249 (a::c::.val (.ref r)::ls) st H Q=M67 1250 (a::c::.val (.ref r)::ls) (.ref r::st) H Q:=w_x at_1249 rfl
theorem m67_1250:M67 1250 (a::c::d::f::k::l::.val (.int v6)::ls) st H Q=M67 1254 (a::c::d::f::k::l::.val (.int v6)::ls) (.int v6::.int 8::st) H Q:=(w_ki 8 at_1250 rfl).trans (w_x at_1252 rfl)
theorem m67_1254:M67 1254 ls [.int a1,.int a0,.ref (b+1)] (put (b+1) e s A g) Q=M1 0 [.val (.ref (b+1)),.val (.int a0),.val (.int a1)] [] (put (b+1) e s A g) (fun v H1 => M67 1257 ls (v.toList ++ []) H1 Q):=wv [.int a1,.int a0] [] at_1254 cr67_26 rfl rfl rfl rfl rfl
theorem m67_1257:M67 1257 ls ((.int v)::st) H Q=M67 1258 ls st H Q:=w_x at_1257 rfl
theorem m67_1258:M67 1258 (a::c::d::f::k::l::m::n::o::p::.val (.int v10)::ls) st H Q=if v10=0 then M67 1263 (a::c::d::f::k::l::m::n::o::p::.val (.int v10)::ls) st H Q else M67 1278 (a::c::d::f::k::l::m::n::o::p::.val (.int v10)::ls) st H Q:=(w_x at_1258 rfl).trans (w_ifN at_1260 (z_ne v10) rfl)
theorem m67_1263:M67 1263 (a::c::d::f::k::l::m::n::o::.val (.int v9)::ls) st H Q=if v9=0 then M67 1274 (a::c::d::f::k::l::m::n::o::.val (.int v9)::ls) st H Q else M67 1268 (a::c::d::f::k::l::m::n::o::.val (.int v9)::ls) st H Q:=(w_x at_1263 rfl).trans (w_if at_1265 (z_eq v9) rfl)
theorem m67_1268:M67 1268 (a::c::d::f::k::l::m::n::o::p::t::u::w::C::E::F::G::I::K::.val (.int v19)::ls) st H Q=if v19=1 then M67 1274 (a::c::d::f::k::l::m::n::o::p::t::u::w::C::E::F::G::I::K::.val (.int v19)::ls) st H Q else M67 1278 (a::c::d::f::k::l::m::n::o::p::t::u::w::C::E::F::G::I::K::.val (.int v19)::ls) st H Q:=(w_x at_1268 rfl).trans ((w_ki 1 at_1270 rfl).trans (w_icmpN at_1271 (i_ne v19 1) rfl))
theorem m67_1274:M67 1274 ls st H Q=M67 1279 ls (.int 1::st) H Q:=(w_ki 1 at_1274 rfl).trans (w_x at_1275 rfl)
theorem m67_1278:M67 1278 ls st H Q=M67 1279 ls (.int 0::st) H Q:=w_con at_1278 rfl (by decide)
theorem m67_1279i:M67 1279 (a::c::d::f::k::l::m::n::o::p::t::u::w::C::E::F::G::I::K::N::O::P::.val (.int z)::ls) ((.int v)::st) H Q=M67 1281 (a::c::d::f::k::l::m::n::o::p::t::u::w::C::E::F::G::I::K::N::O::P::.val (.int v)::ls) st H Q:=ws 22 at_1279 rfl rfl rfl rfl rfl rfl
theorem m67_1281:M67 1281 (a::c::d::f::k::l::m::n::o::p::t::u::w::C::E::F::G::I::K::N::O::P::.val (.int v22)::ls) st H Q=if v22=0 then M67 1294 (a::c::d::f::k::l::m::n::o::p::t::u::w::C::E::F::G::I::K::N::O::P::.val (.int v22)::ls) st H Q else M67 1286 (a::c::d::f::k::l::m::n::o::p::t::u::w::C::E::F::G::I::K::N::O::P::.val (.int v22)::ls) st H Q:=(w_x at_1281 rfl).trans (w_if at_1283 (z_eq v22) rfl)
theorem m67_1286:M67 1286 (a::c::.val (.ref r)::ls) st H Q=M67 1287 (a::c::.val (.ref r)::ls) (.ref r::st) H Q:=w_x at_1286 rfl
theorem m67_1287:M67 1287 ls st H Q=M67 1288 ls (.int 1::st) H Q:=w_con at_1287 rfl (by decide)
theorem m67_1288:M67 1288 ls [.int a0,.ref (b+1)] (put (b+1) e s A g) Q=M29 0 [.val (.ref (b+1)),.val (.int a0),.unset,.unset] [] (put (b+1) e s A g) (fun v H1 => M67 1291 ls (v.toList ++ []) H1 Q):=wv [.int a0] [] at_1288 cr67_54 rfl rfl rfl rfl rfl
theorem m67_1291:M67 1291 ls st H Q=M67 1296 ls st H Q:=w_x at_1291 rfl
theorem m67_1294:M67 1294 ls st H Q=M67 1296 ls (.int (-2)::st) H Q:=w_con at_1294 rfl (by decide)
theorem m67_1296g (h:okS T):M67 1296 (a::c::d::f::k::l::m::n::o::p::t::u::w::C::E::F::G::I::K::N::O::P::S::T::ls) ((.int v)::st) H Q=M67 1298 (a::c::d::f::k::l::m::n::o::p::t::u::w::C::E::F::G::I::K::N::O::P::S::.val (.int v)::ls) st H Q:=by rcases h with rfl | ⟨z,rfl⟩ <;> exact ws 23 at_1296 rfl rfl rfl rfl rfl rfl
theorem m67_1298:M67 1298 (a::.val (.ref r)::ls) st H Q=M67 1299 (a::.val (.ref r)::ls) (.ref r::st) H Q:=w_x at_1298 rfl
theorem m67_1299:M67 1299 ls st H Q=M67 1300 ls (.int 1::st) H Q:=w_con at_1299 rfl (by decide)
theorem m67_1300:M67 1300 ls [.int a0,.ref (b+1)] (put (b+1) e s A g) Q=M29 0 [.val (.ref (b+1)),.val (.int a0),.unset,.unset] [] (put (b+1) e s A g) (fun v H1 => M67 1303 ls (v.toList ++ []) H1 Q):=wv [.int a0] [] at_1300 cr67_54 rfl rfl rfl rfl rfl
theorem m67_1303g (h:okS U):M67 1303 (a::c::d::f::k::l::m::n::o::p::t::u::w::C::E::F::G::I::K::N::O::P::S::T::U::ls) ((.int v)::st) H Q=M67 1305 (a::c::d::f::k::l::m::n::o::p::t::u::w::C::E::F::G::I::K::N::O::P::S::T::.val (.int v)::ls) st H Q:=by rcases h with rfl | ⟨z,rfl⟩ <;> exact ws 24 at_1303 rfl rfl rfl rfl rfl rfl
theorem m67_1305:M67 1305 (a::.val (.ref r)::ls) st H Q=M67 1306 (a::.val (.ref r)::ls) (.ref r::st) H Q:=w_x at_1305 rfl
theorem m67_1306:M67 1306 (a::c::d::f::k::l::m::.val (.int v7)::ls) st H Q=M67 1309 (a::c::d::f::k::l::m::.val (.int v7)::ls) (.int 3::.int v7::st) H Q:=(w_x at_1306 rfl).trans (w_ki 3 at_1308 rfl)
theorem m67_1309:M67 1309 ls [.int a1,.int a0,.ref (b+1)] (put (b+1) e s A g) Q=M33 0 [.val (.ref (b+1)),.val (.int a0),.val (.int a1),.unset] [] (put (b+1) e s A g) (fun v H1 => M67 1312 ls (v.toList ++ []) H1 Q):=wv [.int a1,.int a0] [] at_1309 cr67_57 rfl rfl rfl rfl rfl
theorem m67_1312:M67 1312 (a::c::d::f::k::l::m::n::o::p::t::u::w::C::E::F::G::.val (.int v17)::ls) st H Q=M67 1316 (a::c::d::f::k::l::m::n::o::p::t::u::w::C::E::F::G::.val (.int v17)::ls) (.int (v17+1)::st) H Q:=(w_x at_1312 rfl).trans ((w_ki 1 at_1314 rfl).trans (w_x at_1315 rfl))
theorem m67_1316:M67 1316 ls (.int y::.int x::st) H Q=if x=y then M67 1321 ls st H Q else M67 1319 ls st H Q:=w_icmp at_1316 (i_eq x y) rfl
theorem m67_1319:M67 1319 ls st H Q=M67 1320 ls (.int 0::st) H Q:=w_con at_1319 rfl (by decide)
theorem m67_1320:M67 1320 ls (.int z::st) H Q=Q (some (.int (nar .boolean z))) H:=w_iretN at_1320 rfl (by simp)
theorem m67_1321:M67 1321 ls st H Q=M67 1322 ls (.int 0::st) H Q:=w_con at_1321 rfl (by decide)
theorem m67_1322g (h:okS V):M67 1322 (a::c::d::f::k::l::m::n::o::p::t::u::w::C::E::F::G::I::K::N::O::P::S::T::U::V::ls) ((.int v)::st) H Q=M67 1324 (a::c::d::f::k::l::m::n::o::p::t::u::w::C::E::F::G::I::K::N::O::P::S::T::U::.val (.int v)::ls) st H Q:=by rcases h with rfl | ⟨z,rfl⟩ <;> exact ws 25 at_1322 rfl rfl rfl rfl rfl rfl
theorem m67_1324:M67 1324 (a::c::d::f::k::l::m::n::o::p::t::u::w::C::E::F::G::I::K::N::O::P::S::T::U::.val (.int v25)::ls) st H Q=if v25 < 9 then M67 1331 (a::c::d::f::k::l::m::n::o::p::t::u::w::C::E::F::G::I::K::N::O::P::S::T::U::.val (.int v25)::ls) st H Q else M67 1354 (a::c::d::f::k::l::m::n::o::p::t::u::w::C::E::F::G::I::K::N::O::P::S::T::U::.val (.int v25)::ls) st H Q:=(w_x at_1324 rfl).trans ((w_ki 9 at_1326 rfl).trans (w_icmpN at_1328 (i_ge v25 9) rfl))
theorem m67_1331:M67 1331 (a::.val (.ref r)::ls) st H Q=M67 1332 (a::.val (.ref r)::ls) (.ref r::st) H Q:=w_x at_1331 rfl
theorem m67_1332:M67 1332 (a::c::d::f::k::l::m::n::o::p::t::u::w::C::E::F::G::I::K::N::O::P::S::T::U::.val (.int v)::ls) st H Q=M67 1334 (a::c::d::f::k::l::m::n::o::p::t::u::w::C::E::F::G::I::K::N::O::P::S::T::U::.val (.int v)::ls) (.int v::st) H Q:=w_x at_1332 rfl
theorem m67_1334:M67 1334 ls [.int a0,.ref (b+1)] (put (b+1) e s A g) Q=M34 0 [.val (.ref (b+1)),.val (.int a0)] [] (put (b+1) e s A g) (fun v H1 => M67 1337 ls (v.toList ++ []) H1 Q):=wv [.int a0] [] at_1334 cr67_51 rfl rfl rfl rfl rfl
theorem m67_1337:M67 1337 (a::c::.val (.ref r)::ls) st H Q=M67 1338 (a::c::.val (.ref r)::ls) (.ref r::st) H Q:=w_x at_1337 rfl
theorem m67_1338:M67 1338 (a::c::d::f::k::l::m::n::o::p::t::u::w::C::E::F::G::I::K::N::O::P::S::T::U::.val (.int v)::ls) st H Q=M67 1340 (a::c::d::f::k::l::m::n::o::p::t::u::w::C::E::F::G::I::K::N::O::P::S::T::U::.val (.int v)::ls) (.int v::st) H Q:=w_x at_1338 rfl
theorem m67_1340:M67 1340 ls [.int a0,.ref (b+1),.int u0] (put (b+1) e s A g) Q=M34 0 [.val (.ref (b+1)),.val (.int a0)] [] (put (b+1) e s A g) (fun v H1 => M67 1343 ls (v.toList ++ [.int u0]) H1 Q):=wv [.int a0] [.int u0] at_1340 cr67_51 rfl rfl rfl rfl rfl
theorem m67_1343:M67 1343 ls (.int y::.int x::st) H Q=if x=y then M67 1348 ls st H Q else M67 1346 ls st H Q:=w_icmp at_1343 (i_eq x y) rfl
theorem m67_1346:M67 1346 ls st H Q=M67 1347 ls (.int 0::st) H Q:=w_con at_1346 rfl (by decide)
theorem m67_1347:M67 1347 ls (.int z::st) H Q=Q (some (.int (nar .boolean z))) H:=w_iretN at_1347 rfl (by simp)
theorem m67_1348:M67 1348 (a::c::d::f::k::l::m::n::o::p::t::u::w::C::E::F::G::I::K::N::O::P::S::T::U::.val (.int v25)::ls) st H Q=M67 1324 (a::c::d::f::k::l::m::n::o::p::t::u::w::C::E::F::G::I::K::N::O::P::S::T::U::.val (.int (v25+1))::ls) st H Q:=(w_iinc at_1348 rfl (by decide) rfl).trans (w_x at_1351 rfl)
theorem m67_1354:M67 1354 (a::c::d::f::k::l::m::n::o::p::t::u::w::C::E::F::G::I::K::N::O::P::S::T::U::.val (.int z)::ls) st H Q=M67 1357 (a::c::d::f::k::l::m::n::o::p::t::u::w::C::E::F::G::I::K::N::O::P::S::T::U::.val (.int 0)::ls) st H Q:=(w_ki 0 at_1354 rfl).trans (ws 25 at_1355 rfl rfl rfl rfl rfl rfl)
theorem m67_1357:M67 1357 (a::c::d::f::k::l::m::n::o::p::t::u::w::C::E::F::G::I::K::N::O::P::S::T::U::.val (.int v25)::ls) st H Q=if v25 < 32 then M67 1364 (a::c::d::f::k::l::m::n::o::p::t::u::w::C::E::F::G::I::K::N::O::P::S::T::U::.val (.int v25)::ls) st H Q else M67 1387 (a::c::d::f::k::l::m::n::o::p::t::u::w::C::E::F::G::I::K::N::O::P::S::T::U::.val (.int v25)::ls) st H Q:=(w_x at_1357 rfl).trans ((w_ki 32 at_1359 rfl).trans (w_icmpN at_1361 (i_ge v25 32) rfl))
theorem m67_1364:M67 1364 (a::.val (.ref r)::ls) st H Q=M67 1365 (a::.val (.ref r)::ls) (.ref r::st) H Q:=w_x at_1364 rfl
theorem m67_1365:M67 1365 (a::c::d::f::k::l::m::n::o::p::t::u::w::C::E::F::G::I::K::N::O::P::S::T::U::.val (.int v)::ls) st H Q=M67 1367 (a::c::d::f::k::l::m::n::o::p::t::u::w::C::E::F::G::I::K::N::O::P::S::T::U::.val (.int v)::ls) (.int v::st) H Q:=w_x at_1365 rfl
theorem m67_1367:M67 1367 ls [.int a0,.ref (b+1)] (put (b+1) e s A g) Q=M49 0 [.val (.ref (b+1)),.val (.int a0)] [] (put (b+1) e s A g) (fun v H1 => M67 1370 ls (v.toList ++ []) H1 Q):=wv [.int a0] [] at_1367 cr67_71 rfl rfl rfl rfl rfl
theorem m67_1370:M67 1370 (a::c::.val (.ref r)::ls) st H Q=M67 1371 (a::c::.val (.ref r)::ls) (.ref r::st) H Q:=w_x at_1370 rfl
theorem m67_1371:M67 1371 (a::c::d::f::k::l::m::n::o::p::t::u::w::C::E::F::G::I::K::N::O::P::S::T::U::.val (.int v)::ls) st H Q=M67 1373 (a::c::d::f::k::l::m::n::o::p::t::u::w::C::E::F::G::I::K::N::O::P::S::T::U::.val (.int v)::ls) (.int v::st) H Q:=w_x at_1371 rfl
theorem m67_1373:M67 1373 ls [.int a0,.ref (b+1),.int u0] (put (b+1) e s A g) Q=M49 0 [.val (.ref (b+1)),.val (.int a0)] [] (put (b+1) e s A g) (fun v H1 => M67 1376 ls (v.toList ++ [.int u0]) H1 Q):=wv [.int a0] [.int u0] at_1373 cr67_71 rfl rfl rfl rfl rfl
theorem m67_1376:M67 1376 ls (.int y::.int x::st) H Q=if x=y then M67 1381 ls st H Q else M67 1379 ls st H Q:=w_icmp at_1376 (i_eq x y) rfl
theorem m67_1379:M67 1379 ls st H Q=M67 1380 ls (.int 0::st) H Q:=w_con at_1379 rfl (by decide)
theorem m67_1380:M67 1380 ls (.int z::st) H Q=Q (some (.int (nar .boolean z))) H:=w_iretN at_1380 rfl (by simp)
theorem m67_1381:M67 1381 (a::c::d::f::k::l::m::n::o::p::t::u::w::C::E::F::G::I::K::N::O::P::S::T::U::.val (.int v25)::ls) st H Q=M67 1357 (a::c::d::f::k::l::m::n::o::p::t::u::w::C::E::F::G::I::K::N::O::P::S::T::U::.val (.int (v25+1))::ls) st H Q:=(w_iinc at_1381 rfl (by decide) rfl).trans (w_x at_1384 rfl)
theorem m67_1387:M67 1387 (a::.val (.ref r)::ls) st H Q=M67 1388 (a::.val (.ref r)::ls) (.ref r::st) H Q:=w_x at_1387 rfl
theorem m67_1388:M67 1388 ls st H Q=M67 1389 ls (.int 0::st) H Q:=w_con at_1388 rfl (by decide)
theorem m67_1389:M67 1389 ls [.int a0,.ref (b+1)] (put (b+1) e s A g) Q=M38 0 [.val (.ref (b+1)),.val (.int a0)] [] (put (b+1) e s A g) (fun v H1 => M67 1392 ls (v.toList ++ []) H1 Q):=wv [.int a0] [] at_1389 cr67_60 rfl rfl rfl rfl rfl
theorem m67_1392:M67 1392 (a::c::.val (.ref r)::ls) st H Q=M67 1393 (a::c::.val (.ref r)::ls) (.ref r::st) H Q:=w_x at_1392 rfl
theorem m67_1393:M67 1393 ls st H Q=M67 1394 ls (.int 0::st) H Q:=w_con at_1393 rfl (by decide)
theorem m67_1394:M67 1394 ls [.int a0,.ref (b+1),.int u0] (put (b+1) e s A g) Q=M38 0 [.val (.ref (b+1)),.val (.int a0)] [] (put (b+1) e s A g) (fun v H1 => M67 1397 ls (v.toList ++ [.int u0]) H1 Q):=wv [.int a0] [.int u0] at_1394 cr67_60 rfl rfl rfl rfl rfl
theorem m67_1397:M67 1397 ls (.int y::.int x::st) H Q=if x=y then M67 1402 ls st H Q else M67 1400 ls st H Q:=w_icmp at_1397 (i_eq x y) rfl
theorem m67_1400:M67 1400 ls st H Q=M67 1401 ls (.int 0::st) H Q:=w_con at_1400 rfl (by decide)
theorem m67_1401:M67 1401 ls (.int z::st) H Q=Q (some (.int (nar .boolean z))) H:=w_iretN at_1401 rfl (by simp)
theorem m67_1402:M67 1402 (a::.val (.ref r)::ls) st H Q=M67 1403 (a::.val (.ref r)::ls) (.ref r::st) H Q:=w_x at_1402 rfl
theorem m67_1403:M67 1403 ls st H Q=M67 1405 ls (.int 6::st) H Q:=w_con at_1403 rfl (by decide)
theorem m67_1405:M67 1405 ls [.int a0,.ref (b+1)] (put (b+1) e s A g) Q=M38 0 [.val (.ref (b+1)),.val (.int a0)] [] (put (b+1) e s A g) (fun v H1 => M67 1408 ls (v.toList ++ []) H1 Q):=wv [.int a0] [] at_1405 cr67_60 rfl rfl rfl rfl rfl
theorem m67_1408:M67 1408 ls (.int x::st) H Q=M67 1409 ls (.long x.toInt64::st) H Q:=w_x at_1408 rfl
theorem m67_1409:M67 1409 ls st H Q=M67 1412 ls (.long 1000003::st) H Q:=w_ldc2 at_1409 (by decide +kernel)
theorem m67_1412:M67 1412 ls (.long J2::.long J1::st) H Q=M67 1413 ls (.long (J1 * J2)::st) H Q:=w_x at_1412 rfl
theorem m67_1413:M67 1413 (a::.val (.ref r)::ls) st H Q=M67 1414 (a::.val (.ref r)::ls) (.ref r::st) H Q:=w_x at_1413 rfl
theorem m67_1414:M67 1414 ls st H Q=M67 1416 ls (.int 7::st) H Q:=w_con at_1414 rfl (by decide)
theorem m67_1416 (a0:Int32) (u0:Int64):M67 1416 ls [.int a0,.ref (b+1),.long u0] (put (b+1) e s A g) Q=M38 0 [.val (.ref (b+1)),.val (.int a0)] [] (put (b+1) e s A g) (fun v H1 => M67 1419 ls (v.toList ++ [.long u0]) H1 Q):=wv [.int a0] [.long u0] at_1416 cr67_60 rfl rfl rfl rfl rfl
theorem m67_1419:M67 1419 ls (.int x::st) H Q=M67 1420 ls (.long x.toInt64::st) H Q:=w_x at_1419 rfl
theorem m67_1420:M67 1420 ls (.long J2::.long J1::st) H Q=M67 1421 ls (.long (J1+J2)::st) H Q:=w_x at_1420 rfl
theorem m67_1421:M67 1421 (a::c::d::f::k::l::m::n::o::p::t::u::w::C::E::F::G::I::K::N::O::P::S::T::U::.val (.int x)::.unset::ls) (.long J1::st) H Q=M67 1423 (a::c::d::f::k::l::m::n::o::p::t::u::w::C::E::F::G::I::K::N::O::P::S::T::U::.val (.long J1)::.second::ls) st H Q:=w_x at_1421 rfl
theorem m67_1423:M67 1423 ls st H Q=M67 1424 ls (.int 0::st) H Q:=w_con at_1423 rfl (by decide)
theorem m67_1424g (h:okS X):M67 1424 (a::c::d::f::k::l::m::n::o::p::t::u::w::C::E::F::G::I::K::N::O::P::S::T::U::V::W::X::ls) ((.int v)::st) H Q=M67 1426 (a::c::d::f::k::l::m::n::o::p::t::u::w::C::E::F::G::I::K::N::O::P::S::T::U::V::W::.val (.int v)::ls) st H Q:=by rcases h with rfl | ⟨z,rfl⟩ <;> exact ws 27 at_1424 rfl rfl rfl rfl rfl rfl
theorem m67_1426:M67 1426 (a::c::d::f::k::l::m::n::o::p::t::u::w::C::E::F::G::I::K::N::O::P::S::T::U::V::W::.val (.int v)::ls) st H Q=M67 1428 (a::c::d::f::k::l::m::n::o::p::t::u::w::C::E::F::G::I::K::N::O::P::S::T::U::V::W::.val (.int v)::ls) (.int v::st) H Q:=w_x at_1426 rfl
theorem m67_1428:M67 1428 (a::.val (.ref r)::ls) st H Q=M67 1429 (a::.val (.ref r)::ls) (.ref r::st) H Q:=w_x at_1428 rfl
theorem m67_1429:M67 1429 ls st H Q=M67 1431 ls (.int 6::st) H Q:=w_con at_1429 rfl (by decide)
theorem m67_1431:M67 1431 ls [.int a0,.ref (b+1),.int u0] (put (b+1) e s A g) Q=M38 0 [.val (.ref (b+1)),.val (.int a0)] [] (put (b+1) e s A g) (fun v H1 => M67 1434 ls (v.toList ++ [.int u0]) H1 Q):=wv [.int a0] [.int u0] at_1431 cr67_60 rfl rfl rfl rfl rfl
theorem m67_1434:M67 1434 ls (.int y::.int x::st) H Q=if x < y then M67 1437 ls st H Q else M67 1477 ls st H Q:=w_icmpN at_1434 (i_ge x y) rfl
theorem m67_1437:M67 1437 ls st H Q=M67 1438 ls (.int 0::st) H Q:=w_con at_1437 rfl (by decide)
theorem m67_1438g (h:okS Y):M67 1438 [a,c,d,f,k,l,m,n,o,p,t,u,w,C,E,F,G,I,K,N,O,P,S,T,U,V,W,X,Y] ((.int v)::st) H Q=M67 1440 [a,c,d,f,k,l,m,n,o,p,t,u,w,C,E,F,G,I,K,N,O,P,S,T,U,V,W,X,.val (.int v)] st H Q:=by rcases h with rfl | ⟨z,rfl⟩ <;> exact ws 28 at_1438 rfl rfl rfl rfl rfl rfl
theorem m67_1440:M67 1440 [a,c,d,f,k,l,m,n,o,p,t,u,w,C,E,F,G,I,K,N,O,P,S,T,U,V,W,X,.val (.int v28)] st H Q=if v28 < 8 then M67 1447 [a,c,d,f,k,l,m,n,o,p,t,u,w,C,E,F,G,I,K,N,O,P,S,T,U,V,W,X,.val (.int v28)] st H Q else M67 1471 [a,c,d,f,k,l,m,n,o,p,t,u,w,C,E,F,G,I,K,N,O,P,S,T,U,V,W,X,.val (.int v28)] st H Q:=(w_x at_1440 rfl).trans ((w_ki 8 at_1442 rfl).trans (w_icmpN at_1444 (i_ge v28 8) rfl))
theorem m67_1447:M67 1447 (a::c::d::f::k::l::m::n::o::p::t::u::w::C::E::F::G::I::K::N::O::P::S::T::U::.val (.long w25)::ls) st H Q=M67 1453 (a::c::d::f::k::l::m::n::o::p::t::u::w::C::E::F::G::I::K::N::O::P::S::T::U::.val (.long w25)::ls) (.long (w25 * 1000003)::st) H Q:=(w_x at_1447 rfl).trans ((w_ldc2 (v:=1000003) at_1449 (by decide +kernel)).trans (w_x at_1452 rfl))
theorem m67_1453:M67 1453 (a::.val (.ref r)::ls) st H Q=M67 1454 (a::.val (.ref r)::ls) (.ref r::st) H Q:=w_x at_1453 rfl
theorem m67_1454:M67 1454 [a,c,d,f,k,l,m,n,o,p,t,u,w,C,E,F,G,I,K,N,O,P,S,T,U,V,W,.val (.int v27),.val (.int v28)] st H Q=M67 1458 [a,c,d,f,k,l,m,n,o,p,t,u,w,C,E,F,G,I,K,N,O,P,S,T,U,V,W,.val (.int v27),.val (.int v28)] (.int v28::.int v27::st) H Q:=(w_x at_1454 rfl).trans (w_x at_1456 rfl)
theorem m67_1458 (a0:Int32) (a1:Int32) (u0:Int64):M67 1458 ls [.int a1,.int a0,.ref (b+1),.long u0] (put (b+1) e s A g) Q=M54 0 [.val (.ref (b+1)),.val (.int a0),.val (.int a1),.unset] [] (put (b+1) e s A g) (fun v H1 => M67 1461 ls (v.toList ++ [.long u0]) H1 Q):=wv [.int a1,.int a0] [.long u0] at_1458 cr67_68 rfl rfl rfl rfl rfl
theorem m67_1461:M67 1461 ls (.int x::st) H Q=M67 1462 ls (.long x.toInt64::st) H Q:=w_x at_1461 rfl
theorem m67_1462:M67 1462 ls (.long J2::.long J1::st) H Q=M67 1463 ls (.long (J1+J2)::st) H Q:=w_x at_1462 rfl
theorem m67_1463:M67 1463 (a::c::d::f::k::l::m::n::o::p::t::u::w::C::E::F::G::I::K::N::O::P::S::T::U::.val (.long J2)::.second::ls) (.long J1::st) H Q=M67 1465 (a::c::d::f::k::l::m::n::o::p::t::u::w::C::E::F::G::I::K::N::O::P::S::T::U::.val (.long J1)::.second::ls) st H Q:=w_x at_1463 rfl
theorem m67_1465:M67 1465 [a,c,d,f,k,l,m,n,o,p,t,u,w,C,E,F,G,I,K,N,O,P,S,T,U,V,W,X,.val (.int v28)] st H Q=M67 1440 [a,c,d,f,k,l,m,n,o,p,t,u,w,C,E,F,G,I,K,N,O,P,S,T,U,V,W,X,.val (.int (v28+1))] st H Q:=(w_iinc at_1465 rfl (by decide) rfl).trans (w_x at_1468 rfl)
theorem m67_1471:M67 1471 (a::c::d::f::k::l::m::n::o::p::t::u::w::C::E::F::G::I::K::N::O::P::S::T::U::V::W::.val (.int v27)::ls) st H Q=M67 1426 (a::c::d::f::k::l::m::n::o::p::t::u::w::C::E::F::G::I::K::N::O::P::S::T::U::V::W::.val (.int (v27+1))::ls) st H Q:=(w_iinc at_1471 rfl (by decide) rfl).trans (w_x at_1474 rfl)
theorem m67_1477:M67 1477 (a::c::d::f::k::l::m::n::o::p::.val (.int v10)::ls) st H Q=if v10=0 then M67 1521 (a::c::d::f::k::l::m::n::o::p::.val (.int v10)::ls) st H Q else M67 1482 (a::c::d::f::k::l::m::n::o::p::.val (.int v10)::ls) st H Q:=(w_x at_1477 rfl).trans (w_if at_1479 (z_eq v10) rfl)
theorem m67_1482:M67 1482 (a::c::d::f::k::l::m::n::o::p::t::u::w::C::E::F::G::I::K::N::O::P::S::T::.val (.int v24)::ls) st H Q=if v24=4 then M67 1488 (a::c::d::f::k::l::m::n::o::p::t::u::w::C::E::F::G::I::K::N::O::P::S::T::.val (.int v24)::ls) st H Q else M67 1498 (a::c::d::f::k::l::m::n::o::p::t::u::w::C::E::F::G::I::K::N::O::P::S::T::.val (.int v24)::ls) st H Q:=(w_x at_1482 rfl).trans ((w_ki 4 at_1484 rfl).trans (w_icmpN at_1485 (i_ne v24 4) rfl))
theorem m67_1488:M67 1488 (a::.val (.ref r)::ls) st H Q=M67 1489 (a::.val (.ref r)::ls) (.ref r::st) H Q:=w_x at_1488 rfl
theorem m67_1489:M67 1489 ls st H Q=M67 1490 ls (.int 4::st) H Q:=w_con at_1489 rfl (by decide)
theorem m67_1490:M67 1490 ls [.int a0,.ref (b+1)] (put (b+1) e s A g) Q=M38 0 [.val (.ref (b+1)),.val (.int a0)] [] (put (b+1) e s A g) (fun v H1 => M67 1493 ls (v.toList ++ []) H1 Q):=wv [.int a0] [] at_1490 cr67_60 rfl rfl rfl rfl rfl
theorem m67_1493:M67 1493 (a::c::d::f::k::l::m::n::o::p::.val (.int v)::ls) st H Q=M67 1495 (a::c::d::f::k::l::m::n::o::p::.val (.int v)::ls) (.int v::st) H Q:=w_x at_1493 rfl
theorem m67_1495:M67 1495 ls (.int y::.int x::st) H Q=if x=y then M67 1500 ls st H Q else M67 1498 ls st H Q:=w_icmp at_1495 (i_eq x y) rfl
theorem m67_1498:M67 1498 ls st H Q=M67 1499 ls (.int 0::st) H Q:=w_con at_1498 rfl (by decide)
theorem m67_1499:M67 1499 ls (.int z::st) H Q=Q (some (.int (nar .boolean z))) H:=w_iretN at_1499 rfl (by simp)
theorem m67_1500:M67 1500 (a::.val (.ref r)::ls) st H Q=M67 1501 (a::.val (.ref r)::ls) (.ref r::st) H Q:=w_x at_1500 rfl
theorem m67_1501:M67 1501 ls st H Q=M67 1503 ls (.int 11::st) H Q:=w_con at_1501 rfl (by decide)
theorem m67_1503:M67 1503 ls [.int a0,.ref (b+1)] (put (b+1) e s A g) Q=M38 0 [.val (.ref (b+1)),.val (.int a0)] [] (put (b+1) e s A g) (fun v H1 => M67 1506 ls (v.toList ++ []) H1 Q):=wv [.int a0] [] at_1503 cr67_60 rfl rfl rfl rfl rfl
theorem m67_1506:M67 1506 (a::c::d::f::k::l::m::n::o::p::t::u::w::C::E::F::G::I::.val (.int v)::ls) st H Q=M67 1508 (a::c::d::f::k::l::m::n::o::p::t::u::w::C::E::F::G::I::.val (.int v)::ls) (.int v::st) H Q:=w_x at_1506 rfl
theorem m67_1508:M67 1508 ls (.int y::.int x::st) H Q=if x=y then M67 1511 ls st H Q else M67 1519 ls st H Q:=w_icmpN at_1508 (i_ne x y) rfl
theorem m67_1511:M67 1511 (a::c::d::f::k::l::m::n::o::p::t::u::w::C::E::F::G::I::K::N::.val (.long w20)::P::S::T::U::.val (.long w25)::ls) st H Q=if (XT.cmpL w25 w20)=0 then M67 1799 (a::c::d::f::k::l::m::n::o::p::t::u::w::C::E::F::G::I::K::N::.val (.long w20)::P::S::T::U::.val (.long w25)::ls) st H Q else M67 1519 (a::c::d::f::k::l::m::n::o::p::t::u::w::C::E::F::G::I::K::N::.val (.long w20)::P::S::T::U::.val (.long w25)::ls) st H Q:=(w_x at_1511 rfl).trans ((w_x at_1513 rfl).trans ((w_x at_1515 rfl).trans (w_if at_1516 (z_eq (XT.cmpL w25 w20)) rfl)))
theorem m67_1519:M67 1519 ls st H Q=M67 1520 ls (.int 0::st) H Q:=w_con at_1519 rfl (by decide)
theorem m67_1520:M67 1520 ls (.int z::st) H Q=Q (some (.int (nar .boolean z))) H:=w_iretN at_1520 rfl (by simp)
theorem m67_1521:M67 1521 (a::c::d::f::k::l::m::n::o::.val (.int v9)::ls) st H Q=if v9=0 then M67 1526 (a::c::d::f::k::l::m::n::o::.val (.int v9)::ls) st H Q else M67 1554 (a::c::d::f::k::l::m::n::o::.val (.int v9)::ls) st H Q:=(w_x at_1521 rfl).trans (w_ifN at_1523 (z_ne v9) rfl)
theorem m67_1526:M67 1526 (a::c::d::f::k::l::m::n::o::p::t::u::w::C::E::F::G::I::K::N::O::P::S::.val (.int v23)::.val (.int v24)::ls) st H Q=if v24=v23 then M67 1533 (a::c::d::f::k::l::m::n::o::p::t::u::w::C::E::F::G::I::K::N::O::P::S::.val (.int v23)::.val (.int v24)::ls) st H Q else M67 1552 (a::c::d::f::k::l::m::n::o::p::t::u::w::C::E::F::G::I::K::N::O::P::S::.val (.int v23)::.val (.int v24)::ls) st H Q:=(w_x at_1526 rfl).trans ((w_x at_1528 rfl).trans (w_icmpN at_1530 (i_ne v24 v23) rfl))
theorem m67_1533:M67 1533 (a::.val (.ref r)::ls) st H Q=M67 1534 (a::.val (.ref r)::ls) (.ref r::st) H Q:=w_x at_1533 rfl
theorem m67_1534:M67 1534 ls st H Q=M67 1536 ls (.int 11::st) H Q:=w_con at_1534 rfl (by decide)
theorem m67_1536:M67 1536 ls [.int a0,.ref (b+1)] (put (b+1) e s A g) Q=M38 0 [.val (.ref (b+1)),.val (.int a0)] [] (put (b+1) e s A g) (fun v H1 => M67 1539 ls (v.toList ++ []) H1 Q):=wv [.int a0] [] at_1536 cr67_60 rfl rfl rfl rfl rfl
theorem m67_1539:M67 1539 (a::c::d::f::k::l::m::n::o::p::t::u::w::C::E::F::G::I::.val (.int v)::ls) st H Q=M67 1541 (a::c::d::f::k::l::m::n::o::p::t::u::w::C::E::F::G::I::.val (.int v)::ls) (.int v::st) H Q:=w_x at_1539 rfl
theorem m67_1541:M67 1541 ls (.int y::.int x::st) H Q=if x=y then M67 1544 ls st H Q else M67 1552 ls st H Q:=w_icmpN at_1541 (i_ne x y) rfl
theorem m67_1544:M67 1544 (a::c::d::f::k::l::m::n::o::p::t::u::w::C::E::F::G::I::K::N::.val (.long w20)::P::S::T::U::.val (.long w25)::ls) st H Q=if (XT.cmpL w25 w20)=0 then M67 1799 (a::c::d::f::k::l::m::n::o::p::t::u::w::C::E::F::G::I::K::N::.val (.long w20)::P::S::T::U::.val (.long w25)::ls) st H Q else M67 1552 (a::c::d::f::k::l::m::n::o::p::t::u::w::C::E::F::G::I::K::N::.val (.long w20)::P::S::T::U::.val (.long w25)::ls) st H Q:=(w_x at_1544 rfl).trans ((w_x at_1546 rfl).trans ((w_x at_1548 rfl).trans (w_if at_1549 (z_eq (XT.cmpL w25 w20)) rfl)))
theorem m67_1552:M67 1552 ls st H Q=M67 1553 ls (.int 0::st) H Q:=w_con at_1552 rfl (by decide)
theorem m67_1553:M67 1553 ls (.int z::st) H Q=Q (some (.int (nar .boolean z))) H:=w_iretN at_1553 rfl (by simp)
theorem m67_1554:M67 1554 (a::.val (.ref r)::ls) st H Q=M67 1555 (a::.val (.ref r)::ls) (.ref r::st) H Q:=w_x at_1554 rfl
theorem m67_1555:M67 1555 ls st H Q=M67 1557 ls (.int 11::st) H Q:=w_con at_1555 rfl (by decide)
theorem m67_1557:M67 1557 ls [.int a0,.ref (b+1)] (put (b+1) e s A g) Q=M38 0 [.val (.ref (b+1)),.val (.int a0)] [] (put (b+1) e s A g) (fun v H1 => M67 1560 ls (v.toList ++ []) H1 Q):=wv [.int a0] [] at_1557 cr67_60 rfl rfl rfl rfl rfl
theorem m67_1560:M67 1560 (a::c::d::f::k::l::m::n::o::p::t::u::w::C::E::F::G::I::.val (.int v18)::ls) st H Q=M67 1564 (a::c::d::f::k::l::m::n::o::p::t::u::w::C::E::F::G::I::.val (.int v18)::ls) (.int (v18+1)::st) H Q:=(w_x at_1560 rfl).trans ((w_ki 1 at_1562 rfl).trans (w_x at_1563 rfl))
theorem m67_1564:M67 1564 ls (.int y::.int x::st) H Q=if x=y then M67 1569 ls st H Q else M67 1567 ls st H Q:=w_icmp at_1564 (i_eq x y) rfl
theorem m67_1567:M67 1567 ls st H Q=M67 1568 ls (.int 0::st) H Q:=w_con at_1567 rfl (by decide)
theorem m67_1568:M67 1568 ls (.int z::st) H Q=Q (some (.int (nar .boolean z))) H:=w_iretN at_1568 rfl (by simp)
theorem m67_1569:M67 1569 (a::.val (.ref r)::ls) st H Q=M67 1570 (a::.val (.ref r)::ls) (.ref r::st) H Q:=w_x at_1569 rfl
theorem m67_1570:M67 1570 ls st H Q=M67 1572 ls (.int 6::st) H Q:=w_con at_1570 rfl (by decide)
theorem m67_1572:M67 1572 ls [.int a0,.ref (b+1)] (put (b+1) e s A g) Q=M38 0 [.val (.ref (b+1)),.val (.int a0)] [] (put (b+1) e s A g) (fun v H1 => M67 1575 ls (v.toList ++ []) H1 Q):=wv [.int a0] [] at_1572 cr67_60 rfl rfl rfl rfl rfl
theorem m67_1575:M67 1575 ls st H Q=M67 1576 ls (.int 1::st) H Q:=w_con at_1575 rfl (by decide)
theorem m67_1576:M67 1576 ls (.int y::.int x::st) H Q=M67 1577 ls (.int (x - y)::st) H Q:=w_x at_1576 rfl
theorem m67_1577i:M67 1577 (a::c::d::f::k::l::m::n::o::p::t::u::w::C::E::F::G::I::K::N::O::P::S::T::U::V::W::.val (.int z)::ls) ((.int v)::st) H Q=M67 1579 (a::c::d::f::k::l::m::n::o::p::t::u::w::C::E::F::G::I::K::N::O::P::S::T::U::V::W::.val (.int v)::ls) st H Q:=ws 27 at_1577 rfl rfl rfl rfl rfl rfl
theorem m67_1579:M67 1579 (a::c::d::f::k::l::m::n::o::p::t::u::w::C::E::F::G::I::K::N::O::P::S::T::U::V::W::.val (.int v27)::ls) st H Q=if v27 < 0 then M67 1608 (a::c::d::f::k::l::m::n::o::p::t::u::w::C::E::F::G::I::K::N::O::P::S::T::U::V::W::.val (.int v27)::ls) st H Q else M67 1584 (a::c::d::f::k::l::m::n::o::p::t::u::w::C::E::F::G::I::K::N::O::P::S::T::U::V::W::.val (.int v27)::ls) st H Q:=(w_x at_1579 rfl).trans (w_if at_1581 (z_lt v27) rfl)
theorem m67_1584:M67 1584 (a::.val (.ref r)::ls) st H Q=M67 1585 (a::.val (.ref r)::ls) (.ref r::st) H Q:=w_x at_1584 rfl
theorem m67_1585:M67 1585 (a::c::d::f::k::l::m::n::o::p::t::u::w::C::E::F::G::I::K::N::O::P::S::T::U::V::W::.val (.int v27)::ls) st H Q=M67 1588 (a::c::d::f::k::l::m::n::o::p::t::u::w::C::E::F::G::I::K::N::O::P::S::T::U::V::W::.val (.int v27)::ls) (.int 0::.int v27::st) H Q:=(w_x at_1585 rfl).trans (w_ki 0 at_1587 rfl)
theorem m67_1588:M67 1588 ls [.int a1,.int a0,.ref (b+1)] (put (b+1) e s A g) Q=M54 0 [.val (.ref (b+1)),.val (.int a0),.val (.int a1),.unset] [] (put (b+1) e s A g) (fun v H1 => M67 1591 ls (v.toList ++ []) H1 Q):=wv [.int a1,.int a0] [] at_1588 cr67_68 rfl rfl rfl rfl rfl
theorem m67_1591:M67 1591 (a::c::d::f::k::l::.val (.int v)::ls) st H Q=M67 1593 (a::c::d::f::k::l::.val (.int v)::ls) (.int v::st) H Q:=w_x at_1591 rfl
theorem m67_1593:M67 1593 ls (.int y::.int x::st) H Q=if x=y then M67 1596 ls st H Q else M67 1608 ls st H Q:=w_icmpN at_1593 (i_ne x y) rfl
theorem m67_1596:M67 1596 (a::.val (.ref r)::ls) st H Q=M67 1597 (a::.val (.ref r)::ls) (.ref r::st) H Q:=w_x at_1596 rfl
theorem m67_1597:M67 1597 (a::c::d::f::k::l::m::n::o::p::t::u::w::C::E::F::G::I::K::N::O::P::S::T::U::V::W::.val (.int v27)::ls) st H Q=M67 1600 (a::c::d::f::k::l::m::n::o::p::t::u::w::C::E::F::G::I::K::N::O::P::S::T::U::V::W::.val (.int v27)::ls) (.int 1::.int v27::st) H Q:=(w_x at_1597 rfl).trans (w_ki 1 at_1599 rfl)
theorem m67_1600:M67 1600 ls [.int a1,.int a0,.ref (b+1)] (put (b+1) e s A g) Q=M54 0 [.val (.ref (b+1)),.val (.int a0),.val (.int a1),.unset] [] (put (b+1) e s A g) (fun v H1 => M67 1603 ls (v.toList ++ []) H1 Q):=wv [.int a1,.int a0] [] at_1600 cr67_68 rfl rfl rfl rfl rfl
theorem m67_1603:M67 1603 (a::c::d::f::k::l::m::.val (.int v)::ls) st H Q=M67 1605 (a::c::d::f::k::l::m::.val (.int v)::ls) (.int v::st) H Q:=w_x at_1603 rfl
theorem m67_1605:M67 1605 ls (.int y::.int x::st) H Q=if x=y then M67 1610 ls st H Q else M67 1608 ls st H Q:=w_icmp at_1605 (i_eq x y) rfl
theorem m67_1608:M67 1608 ls st H Q=M67 1609 ls (.int 0::st) H Q:=w_con at_1608 rfl (by decide)
theorem m67_1609:M67 1609 ls (.int z::st) H Q=Q (some (.int (nar .boolean z))) H:=w_iretN at_1609 rfl (by simp)
theorem m67_1610:M67 1610 (a::.val (.ref r)::ls) st H Q=M67 1611 (a::.val (.ref r)::ls) (.ref r::st) H Q:=w_x at_1610 rfl
theorem m67_1611:M67 1611 (a::c::d::f::k::l::m::n::o::p::t::u::w::C::E::F::G::I::K::N::O::P::S::T::U::V::W::.val (.int v27)::ls) st H Q=M67 1614 (a::c::d::f::k::l::m::n::o::p::t::u::w::C::E::F::G::I::K::N::O::P::S::T::U::V::W::.val (.int v27)::ls) (.int 2::.int v27::st) H Q:=(w_x at_1611 rfl).trans (w_ki 2 at_1613 rfl)
theorem m67_1614:M67 1614 ls [.int a1,.int a0,.ref (b+1)] (put (b+1) e s A g) Q=M54 0 [.val (.ref (b+1)),.val (.int a0),.val (.int a1),.unset] [] (put (b+1) e s A g) (fun v H1 => M67 1617 ls (v.toList ++ []) H1 Q):=wv [.int a1,.int a0] [] at_1614 cr67_68 rfl rfl rfl rfl rfl
theorem m67_1617:M67 1617 (a::c::d::f::k::l::m::n::.val (.int v8)::ls) st H Q=M67 1621 (a::c::d::f::k::l::m::n::.val (.int v8)::ls) (.int (v8 - 1)::st) H Q:=(w_x at_1617 rfl).trans ((w_ki 1 at_1619 rfl).trans (w_x at_1620 rfl))
theorem m67_1621:M67 1621 ls (.int y::.int x::st) H Q=if x=y then M67 1624 ls st H Q else M67 1639 ls st H Q:=w_icmpN at_1621 (i_ne x y) rfl
theorem m67_1624:M67 1624 (a::.val (.ref r)::ls) st H Q=M67 1625 (a::.val (.ref r)::ls) (.ref r::st) H Q:=w_x at_1624 rfl
theorem m67_1625:M67 1625 (a::c::d::f::k::l::m::n::o::p::t::u::w::C::E::F::G::I::K::N::O::P::S::T::U::V::W::.val (.int v27)::ls) st H Q=M67 1629 (a::c::d::f::k::l::m::n::o::p::t::u::w::C::E::F::G::I::K::N::O::P::S::T::U::V::W::.val (.int v27)::ls) (.int 7::.int v27::st) H Q:=(w_x at_1625 rfl).trans (w_ki 7 at_1627 rfl)
theorem m67_1629:M67 1629 ls [.int a1,.int a0,.ref (b+1)] (put (b+1) e s A g) Q=M54 0 [.val (.ref (b+1)),.val (.int a0),.val (.int a1),.unset] [] (put (b+1) e s A g) (fun v H1 => M67 1632 ls (v.toList ++ []) H1 Q):=wv [.int a1,.int a0] [] at_1629 cr67_68 rfl rfl rfl rfl rfl
theorem m67_1632:M67 1632 (a::c::d::f::k::l::m::n::o::p::t::u::w::C::E::F::G::I::.val (.int v18)::ls) st H Q=M67 1636 (a::c::d::f::k::l::m::n::o::p::t::u::w::C::E::F::G::I::.val (.int v18)::ls) (.int (v18+1)::st) H Q:=(w_x at_1632 rfl).trans ((w_ki 1 at_1634 rfl).trans (w_x at_1635 rfl))
theorem m67_1636:M67 1636 ls (.int y::.int x::st) H Q=if x=y then M67 1641 ls st H Q else M67 1639 ls st H Q:=w_icmp at_1636 (i_eq x y) rfl
theorem m67_1639:M67 1639 ls st H Q=M67 1640 ls (.int 0::st) H Q:=w_con at_1639 rfl (by decide)
theorem m67_1640:M67 1640 ls (.int z::st) H Q=Q (some (.int (nar .boolean z))) H:=w_iretN at_1640 rfl (by simp)
theorem m67_1641:M67 1641 (a::c::d::f::k::l::m::n::.val (.int v8)::ls) st H Q=if 1 < v8 then M67 1647 (a::c::d::f::k::l::m::n::.val (.int v8)::ls) st H Q else M67 1661 (a::c::d::f::k::l::m::n::.val (.int v8)::ls) st H Q:=(w_x at_1641 rfl).trans ((w_ki 1 at_1643 rfl).trans (w_icmpN at_1644 (i_le v8 1) rfl))
theorem m67_1647:M67 1647 (a::.val (.ref r)::ls) st H Q=M67 1648 (a::.val (.ref r)::ls) (.ref r::st) H Q:=w_x at_1647 rfl
theorem m67_1648:M67 1648 (a::c::d::f::k::l::m::n::o::p::t::u::w::C::E::F::G::I::K::N::O::P::S::T::U::V::W::.val (.int v27)::ls) st H Q=M67 1651 (a::c::d::f::k::l::m::n::o::p::t::u::w::C::E::F::G::I::K::N::O::P::S::T::U::V::W::.val (.int v27)::ls) (.int 4::.int v27::st) H Q:=(w_x at_1648 rfl).trans (w_ki 4 at_1650 rfl)
theorem m67_1651:M67 1651 ls [.int a1,.int a0,.ref (b+1)] (put (b+1) e s A g) Q=M54 0 [.val (.ref (b+1)),.val (.int a0),.val (.int a1),.unset] [] (put (b+1) e s A g) (fun v H1 => M67 1654 ls (v.toList ++ []) H1 Q):=wv [.int a1,.int a0] [] at_1651 cr67_68 rfl rfl rfl rfl rfl
theorem m67_1654:M67 1654 (a::c::d::f::k::l::m::n::o::p::t::.val (.int v)::ls) st H Q=M67 1656 (a::c::d::f::k::l::m::n::o::p::t::.val (.int v)::ls) (.int v::st) H Q:=w_x at_1654 rfl
theorem m67_1656:M67 1656 ls (.int y::.int x::st) H Q=if x=y then M67 1661 ls st H Q else M67 1659 ls st H Q:=w_icmp at_1656 (i_eq x y) rfl
theorem m67_1659:M67 1659 ls st H Q=M67 1660 ls (.int 0::st) H Q:=w_con at_1659 rfl (by decide)
theorem m67_1660:M67 1660 ls (.int z::st) H Q=Q (some (.int (nar .boolean z))) H:=w_iretN at_1660 rfl (by simp)
theorem m67_1661:M67 1661 (a::c::d::f::k::l::m::n::.val (.int v8)::ls) st H Q=if 2 < v8 then M67 1667 (a::c::d::f::k::l::m::n::.val (.int v8)::ls) st H Q else M67 1681 (a::c::d::f::k::l::m::n::.val (.int v8)::ls) st H Q:=(w_x at_1661 rfl).trans ((w_ki 2 at_1663 rfl).trans (w_icmpN at_1664 (i_le v8 2) rfl))
theorem m67_1667:M67 1667 (a::.val (.ref r)::ls) st H Q=M67 1668 (a::.val (.ref r)::ls) (.ref r::st) H Q:=w_x at_1667 rfl
theorem m67_1668:M67 1668 (a::c::d::f::k::l::m::n::o::p::t::u::w::C::E::F::G::I::K::N::O::P::S::T::U::V::W::.val (.int v27)::ls) st H Q=M67 1671 (a::c::d::f::k::l::m::n::o::p::t::u::w::C::E::F::G::I::K::N::O::P::S::T::U::V::W::.val (.int v27)::ls) (.int 5::.int v27::st) H Q:=(w_x at_1668 rfl).trans (w_ki 5 at_1670 rfl)
theorem m67_1671:M67 1671 ls [.int a1,.int a0,.ref (b+1)] (put (b+1) e s A g) Q=M54 0 [.val (.ref (b+1)),.val (.int a0),.val (.int a1),.unset] [] (put (b+1) e s A g) (fun v H1 => M67 1674 ls (v.toList ++ []) H1 Q):=wv [.int a1,.int a0] [] at_1671 cr67_68 rfl rfl rfl rfl rfl
theorem m67_1674:M67 1674 (a::c::d::f::k::l::m::n::o::p::t::u::.val (.int v)::ls) st H Q=M67 1676 (a::c::d::f::k::l::m::n::o::p::t::u::.val (.int v)::ls) (.int v::st) H Q:=w_x at_1674 rfl
theorem m67_1676:M67 1676 ls (.int y::.int x::st) H Q=if x=y then M67 1681 ls st H Q else M67 1679 ls st H Q:=w_icmp at_1676 (i_eq x y) rfl
theorem m67_1679:M67 1679 ls st H Q=M67 1680 ls (.int 0::st) H Q:=w_con at_1679 rfl (by decide)
theorem m67_1680:M67 1680 ls (.int z::st) H Q=Q (some (.int (nar .boolean z))) H:=w_iretN at_1680 rfl (by simp)
theorem m67_1681:M67 1681 (a::c::d::f::k::l::m::n::.val (.int v8)::ls) st H Q=if 3 < v8 then M67 1687 (a::c::d::f::k::l::m::n::.val (.int v8)::ls) st H Q else M67 1702 (a::c::d::f::k::l::m::n::.val (.int v8)::ls) st H Q:=(w_x at_1681 rfl).trans ((w_ki 3 at_1683 rfl).trans (w_icmpN at_1684 (i_le v8 3) rfl))
theorem m67_1687:M67 1687 (a::.val (.ref r)::ls) st H Q=M67 1688 (a::.val (.ref r)::ls) (.ref r::st) H Q:=w_x at_1687 rfl
theorem m67_1688:M67 1688 (a::c::d::f::k::l::m::n::o::p::t::u::w::C::E::F::G::I::K::N::O::P::S::T::U::V::W::.val (.int v27)::ls) st H Q=M67 1692 (a::c::d::f::k::l::m::n::o::p::t::u::w::C::E::F::G::I::K::N::O::P::S::T::U::V::W::.val (.int v27)::ls) (.int 6::.int v27::st) H Q:=(w_x at_1688 rfl).trans (w_ki 6 at_1690 rfl)
theorem m67_1692:M67 1692 ls [.int a1,.int a0,.ref (b+1)] (put (b+1) e s A g) Q=M54 0 [.val (.ref (b+1)),.val (.int a0),.val (.int a1),.unset] [] (put (b+1) e s A g) (fun v H1 => M67 1695 ls (v.toList ++ []) H1 Q):=wv [.int a1,.int a0] [] at_1692 cr67_68 rfl rfl rfl rfl rfl
theorem m67_1695:M67 1695 (a::c::d::f::k::l::m::n::o::p::t::u::w::.val (.int v)::ls) st H Q=M67 1697 (a::c::d::f::k::l::m::n::o::p::t::u::w::.val (.int v)::ls) (.int v::st) H Q:=w_x at_1695 rfl
theorem m67_1697:M67 1697 ls (.int y::.int x::st) H Q=if x=y then M67 1702 ls st H Q else M67 1700 ls st H Q:=w_icmp at_1697 (i_eq x y) rfl
theorem m67_1700:M67 1700 ls st H Q=M67 1701 ls (.int 0::st) H Q:=w_con at_1700 rfl (by decide)
theorem m67_1701:M67 1701 ls (.int z::st) H Q=Q (some (.int (nar .boolean z))) H:=w_iretN at_1701 rfl (by simp)
theorem m67_1702:M67 1702 (a::c::d::f::k::l::m::n::.val (.int v8)::ls) st H Q=if 1 < v8 then M67 1708 (a::c::d::f::k::l::m::n::.val (.int v8)::ls) st H Q else M67 1717 (a::c::d::f::k::l::m::n::.val (.int v8)::ls) st H Q:=(w_x at_1702 rfl).trans ((w_ki 1 at_1704 rfl).trans (w_icmpN at_1705 (i_le v8 1) rfl))
theorem m67_1708:M67 1708 (a::c::d::f::k::l::m::n::o::p::t::u::w::C::.val (.int v14)::ls) st H Q=if v14=0 then M67 1717 (a::c::d::f::k::l::m::n::o::p::t::u::w::C::.val (.int v14)::ls) st H Q else M67 1713 (a::c::d::f::k::l::m::n::o::p::t::u::w::C::.val (.int v14)::ls) st H Q:=(w_x at_1708 rfl).trans (w_if at_1710 (z_eq v14) rfl)
theorem m67_1713:M67 1713 ls st H Q=M67 1718 ls (.int 1::st) H Q:=(w_ki 1 at_1713 rfl).trans (w_x at_1714 rfl)
theorem m67_1717:M67 1717 ls st H Q=M67 1718 ls (.int 0::st) H Q:=w_con at_1717 rfl (by decide)
theorem m67_1718:M67 1718 (a::c::d::f::k::l::m::n::.val (.int v8)::ls) st H Q=if 2 < v8 then M67 1724 (a::c::d::f::k::l::m::n::.val (.int v8)::ls) st H Q else M67 1733 (a::c::d::f::k::l::m::n::.val (.int v8)::ls) st H Q:=(w_x at_1718 rfl).trans ((w_ki 2 at_1720 rfl).trans (w_icmpN at_1721 (i_le v8 2) rfl))
theorem m67_1724:M67 1724 (a::c::d::f::k::l::m::n::o::p::t::u::w::C::E::.val (.int v15)::ls) st H Q=if v15=0 then M67 1733 (a::c::d::f::k::l::m::n::o::p::t::u::w::C::E::.val (.int v15)::ls) st H Q else M67 1729 (a::c::d::f::k::l::m::n::o::p::t::u::w::C::E::.val (.int v15)::ls) st H Q:=(w_x at_1724 rfl).trans (w_if at_1726 (z_eq v15) rfl)
theorem m67_1729:M67 1729 ls st H Q=M67 1734 ls (.int 2::st) H Q:=(w_ki 2 at_1729 rfl).trans (w_x at_1730 rfl)
theorem m67_1733:M67 1733 ls st H Q=M67 1734 ls (.int 0::st) H Q:=w_con at_1733 rfl (by decide)
theorem m67_1734:M67 1734 ls (.int y::.int x::st) H Q=M67 1735 ls (.int (x ||| y)::st) H Q:=w_x at_1734 rfl
theorem m67_1735:M67 1735 (a::c::d::f::k::l::m::n::.val (.int v8)::ls) st H Q=if 3 < v8 then M67 1741 (a::c::d::f::k::l::m::n::.val (.int v8)::ls) st H Q else M67 1750 (a::c::d::f::k::l::m::n::.val (.int v8)::ls) st H Q:=(w_x at_1735 rfl).trans ((w_ki 3 at_1737 rfl).trans (w_icmpN at_1738 (i_le v8 3) rfl))
theorem m67_1741:M67 1741 (a::c::d::f::k::l::m::n::o::p::t::u::w::C::E::F::.val (.int v16)::ls) st H Q=if v16=0 then M67 1750 (a::c::d::f::k::l::m::n::o::p::t::u::w::C::E::F::.val (.int v16)::ls) st H Q else M67 1746 (a::c::d::f::k::l::m::n::o::p::t::u::w::C::E::F::.val (.int v16)::ls) st H Q:=(w_x at_1741 rfl).trans (w_if at_1743 (z_eq v16) rfl)
theorem m67_1746:M67 1746 ls st H Q=M67 1751 ls (.int 4::st) H Q:=(w_ki 4 at_1746 rfl).trans (w_x at_1747 rfl)
theorem m67_1750:M67 1750 ls st H Q=M67 1751 ls (.int 0::st) H Q:=w_con at_1750 rfl (by decide)
theorem m67_1751:M67 1751 ls (.int y::.int x::st) H Q=M67 1752 ls (.int (x ||| y)::st) H Q:=w_x at_1751 rfl
theorem m67_1752g (h:okS Y):M67 1752 [a,c,d,f,k,l,m,n,o,p,t,u,w,C,E,F,G,I,K,N,O,P,S,T,U,V,W,X,Y] ((.int v)::st) H Q=M67 1754 [a,c,d,f,k,l,m,n,o,p,t,u,w,C,E,F,G,I,K,N,O,P,S,T,U,V,W,X,.val (.int v)] st H Q:=by rcases h with rfl | ⟨z,rfl⟩ <;> exact ws 28 at_1752 rfl rfl rfl rfl rfl rfl
theorem m67_1754:M67 1754 (a::.val (.ref r)::ls) st H Q=M67 1755 (a::.val (.ref r)::ls) (.ref r::st) H Q:=w_x at_1754 rfl
theorem m67_1755:M67 1755 (a::c::d::f::k::l::m::n::o::p::t::u::w::C::E::F::G::I::K::N::O::P::S::T::U::V::W::.val (.int v27)::ls) st H Q=M67 1758 (a::c::d::f::k::l::m::n::o::p::t::u::w::C::E::F::G::I::K::N::O::P::S::T::U::V::W::.val (.int v27)::ls) (.int 3::.int v27::st) H Q:=(w_x at_1755 rfl).trans (w_ki 3 at_1757 rfl)
theorem m67_1758:M67 1758 ls [.int a1,.int a0,.ref (b+1)] (put (b+1) e s A g) Q=M54 0 [.val (.ref (b+1)),.val (.int a0),.val (.int a1),.unset] [] (put (b+1) e s A g) (fun v H1 => M67 1761 ls (v.toList ++ []) H1 Q):=wv [.int a1,.int a0] [] at_1758 cr67_68 rfl rfl rfl rfl rfl
theorem m67_1761:M67 1761 [a,c,d,f,k,l,m,n,o,p,t,u,w,C,E,F,G,I,K,N,O,P,S,T,U,V,W,X,.val (.int v)] st H Q=M67 1763 [a,c,d,f,k,l,m,n,o,p,t,u,w,C,E,F,G,I,K,N,O,P,S,T,U,V,W,X,.val (.int v)] (.int v::st) H Q:=w_x at_1761 rfl
theorem m67_1763:M67 1763 ls (.int y::.int x::st) H Q=if x=y then M67 1768 ls st H Q else M67 1766 ls st H Q:=w_icmp at_1763 (i_eq x y) rfl
theorem m67_1766:M67 1766 ls st H Q=M67 1767 ls (.int 0::st) H Q:=w_con at_1766 rfl (by decide)
theorem m67_1767:M67 1767 ls (.int z::st) H Q=Q (some (.int (nar .boolean z))) H:=w_iretN at_1767 rfl (by simp)
theorem m67_1768:M67 1768 (a::c::d::f::k::l::m::n::o::p::t::u::w::C::E::F::G::I::K::.val (.int v19)::ls) st H Q=if v19=0 then M67 1773 (a::c::d::f::k::l::m::n::o::p::t::u::w::C::E::F::G::I::K::.val (.int v19)::ls) st H Q else M67 1790 (a::c::d::f::k::l::m::n::o::p::t::u::w::C::E::F::G::I::K::.val (.int v19)::ls) st H Q:=(w_x at_1768 rfl).trans (w_ifN at_1770 (z_ne v19) rfl)
theorem m67_1773:M67 1773 (a::c::d::f::k::l::m::n::o::p::t::u::w::C::E::F::G::I::K::N::O::P::S::T::.val (.int v24)::ls) st H Q=if v24=2 then M67 1779 (a::c::d::f::k::l::m::n::o::p::t::u::w::C::E::F::G::I::K::N::O::P::S::T::.val (.int v24)::ls) st H Q else M67 1788 (a::c::d::f::k::l::m::n::o::p::t::u::w::C::E::F::G::I::K::N::O::P::S::T::.val (.int v24)::ls) st H Q:=(w_x at_1773 rfl).trans ((w_ki 2 at_1775 rfl).trans (w_icmpN at_1776 (i_ne v24 2) rfl))
theorem m67_1779:M67 1779 (a::.val (.ref r)::ls) st H Q=M67 1780 (a::.val (.ref r)::ls) (.ref r::st) H Q:=w_x at_1779 rfl
theorem m67_1780:M67 1780 ls st H Q=M67 1781 ls (.int 1::st) H Q:=w_con at_1780 rfl (by decide)
theorem m67_1781:M67 1781 ls [.int a0,.ref (b+1)] (put (b+1) e s A g) Q=M38 0 [.val (.ref (b+1)),.val (.int a0)] [] (put (b+1) e s A g) (fun v H1 => M67 1784 ls (v.toList ++ []) H1 Q):=wv [.int a0] [] at_1781 cr67_60 rfl rfl rfl rfl rfl
theorem m67_1784:M67 1784 ls st H Q=M67 1785 ls (.int 1::st) H Q:=w_con at_1784 rfl (by decide)
theorem m67_1785:M67 1785 ls (.int y::.int x::st) H Q=if x=y then M67 1799 ls st H Q else M67 1788 ls st H Q:=w_icmp at_1785 (i_eq x y) rfl
theorem m67_1788:M67 1788 ls st H Q=M67 1789 ls (.int 0::st) H Q:=w_con at_1788 rfl (by decide)
theorem m67_1789:M67 1789 ls (.int z::st) H Q=Q (some (.int (nar .boolean z))) H:=w_iretN at_1789 rfl (by simp)
theorem m67_1790:M67 1790 (a::c::d::f::k::l::m::n::o::p::t::u::w::C::E::F::G::I::K::N::O::P::S::.val (.int v23)::.val (.int v24)::ls) st H Q=if v24=v23 then M67 1799 (a::c::d::f::k::l::m::n::o::p::t::u::w::C::E::F::G::I::K::N::O::P::S::.val (.int v23)::.val (.int v24)::ls) st H Q else M67 1797 (a::c::d::f::k::l::m::n::o::p::t::u::w::C::E::F::G::I::K::N::O::P::S::.val (.int v23)::.val (.int v24)::ls) st H Q:=(w_x at_1790 rfl).trans ((w_x at_1792 rfl).trans (w_icmp at_1794 (i_eq v24 v23) rfl))
theorem m67_1797:M67 1797 ls st H Q=M67 1798 ls (.int 0::st) H Q:=w_con at_1797 rfl (by decide)
theorem m67_1798:M67 1798 ls (.int z::st) H Q=Q (some (.int (nar .boolean z))) H:=w_iretN at_1798 rfl (by simp)
theorem m67_1799:M67 1799 ls st H Q=M67 30 ls st H Q:=w_x at_1799 rfl
theorem m67_1802:M67 1802 ls st H Q=M67 1803 ls (.int 1::st) H Q:=w_con at_1802 rfl (by decide)
theorem m67_1803:M67 1803 ls (.int z::st) H Q=Q (some (.int (nar .boolean z))) H:=w_iretN at_1803 rfl (by simp)
theorem pf0_7:pfR tables_1 y0.cls y0.name 7=some ("AgentExprDbg", 0,.array .int):=by decide +kernel
theorem m0_4a (hH:H.length=b) (hk:1≤b) {vs:List Value}{r:AHeap} (hj:0 < vs.length):M0 4 (.val (.ref b)::[l1,l2,l3,l4]) [] (H ++ (.object "AgentExprDbg", vs)::r) Q=M0 12 (.val (.ref b)::[l1,l2,l3,l4]) [] (H ++ (.object "AgentExprDbg", vs.set 0 (.ref (b+(r.length+1))))::(r ++ [(.array .int,List.replicate 8 (.int 0))])) Q:=w_iarr (n:=8) rfl hH hk d0 rfl d19 (fun _ => rfl) (by decide) d13 rfl (by decide +kernel) (by decide) (by decide) rfl (dc (.putfield 7,3)) pf0_7 hj
theorem pf0_13:pfR tables_1 y0.cls y0.name 13=some ("AgentExprDbg", 1,.array .int):=by decide +kernel
theorem m0_12a (hH:H.length=b) (hk:1≤b) {vs:List Value}{r:AHeap} (hj:1 < vs.length):M0 12 (.val (.ref b)::[l1,l2,l3,l4]) [] (H ++ (.object "AgentExprDbg", vs)::r) Q=M0 20 (.val (.ref b)::[l1,l2,l3,l4]) [] (H ++ (.object "AgentExprDbg", vs.set 1 (.ref (b+(r.length+1))))::(r ++ [(.array .int,List.replicate 32 (.int 0))])) Q:=w_iarr (n:=32) rfl hH hk d0 rfl d16 (fun _ => rfl) (by decide) d13 rfl (by decide +kernel) (by decide) (by decide) rfl (dc (.putfield 13,3)) pf0_13 hj
theorem pf0_16:pfR tables_1 y0.cls y0.name 16=some ("AgentExprDbg", 2,.array .int):=by decide +kernel
theorem m0_20a (hH:H.length=b) (hk:1≤b) {vs:List Value}{r:AHeap} (hj:2 < vs.length):M0 20 (.val (.ref b)::[l1,l2,l3,l4]) [] (H ++ (.object "AgentExprDbg", vs)::r) Q=M0 28 (.val (.ref b)::[l1,l2,l3,l4]) [] (H ++ (.object "AgentExprDbg", vs.set 2 (.ref (b+(r.length+1))))::(r ++ [(.array .int,List.replicate 32 (.int 0))])) Q:=w_iarr (n:=32) rfl hH hk d0 rfl d16 (fun _ => rfl) (by decide) d13 rfl (by decide +kernel) (by decide) (by decide) rfl (dc (.putfield 16,3)) pf0_16 hj
theorem pf0_19:pfR tables_1 y0.cls y0.name 19=some ("AgentExprDbg", 3,.array .int):=by decide +kernel
theorem m0_28a (hH:H.length=b) (hk:1≤b) {vs:List Value}{r:AHeap} (hj:3 < vs.length):M0 28 (.val (.ref b)::[l1,l2,l3,l4]) [] (H ++ (.object "AgentExprDbg", vs)::r) Q=M0 36 (.val (.ref b)::[l1,l2,l3,l4]) [] (H ++ (.object "AgentExprDbg", vs.set 3 (.ref (b+(r.length+1))))::(r ++ [(.array .int,List.replicate 32 (.int 0))])) Q:=w_iarr (n:=32) rfl hH hk d0 rfl d16 (fun _ => rfl) (by decide) d13 rfl (by decide +kernel) (by decide) (by decide) rfl (dc (.putfield 19,3)) pf0_19 hj
theorem pf0_22:pfR tables_1 y0.cls y0.name 22=some ("AgentExprDbg", 4,.array .int):=by decide +kernel
theorem m0_36a (hH:H.length=b) (hk:1≤b) {vs:List Value}{r:AHeap} (hj:4 < vs.length):M0 36 (.val (.ref b)::[l1,l2,l3,l4]) [] (H ++ (.object "AgentExprDbg", vs)::r) Q=M0 44 (.val (.ref b)::[l1,l2,l3,l4]) [] (H ++ (.object "AgentExprDbg", vs.set 4 (.ref (b+(r.length+1))))::(r ++ [(.array .int,List.replicate 32 (.int 0))])) Q:=w_iarr (n:=32) rfl hH hk d0 rfl d16 (fun _ => rfl) (by decide) d13 rfl (by decide +kernel) (by decide) (by decide) rfl (dc (.putfield 22,3)) pf0_22 hj
theorem pf0_25:pfR tables_1 y0.cls y0.name 25=some ("AgentExprDbg", 5,.array .int):=by decide +kernel
theorem m0_44a (hH:H.length=b) (hk:1≤b) {vs:List Value}{r:AHeap} (hj:5 < vs.length):M0 44 (.val (.ref b)::[l1,l2,l3,l4]) [] (H ++ (.object "AgentExprDbg", vs)::r) Q=M0 52 (.val (.ref b)::[l1,l2,l3,l4]) [] (H ++ (.object "AgentExprDbg", vs.set 5 (.ref (b+(r.length+1))))::(r ++ [(.array .int,List.replicate 32 (.int 0))])) Q:=w_iarr (n:=32) rfl hH hk d0 rfl d16 (fun _ => rfl) (by decide) d13 rfl (by decide +kernel) (by decide) (by decide) rfl (dc (.putfield 25,3)) pf0_25 hj
theorem pf0_28:pfR tables_1 y0.cls y0.name 28=some ("AgentExprDbg", 6,.array .int):=by decide +kernel
theorem m0_52a (hH:H.length=b) (hk:1≤b) {vs:List Value}{r:AHeap} (hj:6 < vs.length):M0 52 (.val (.ref b)::[l1,l2,l3,l4]) [] (H ++ (.object "AgentExprDbg", vs)::r) Q=M0 60 (.val (.ref b)::[l1,l2,l3,l4]) [] (H ++ (.object "AgentExprDbg", vs.set 6 (.ref (b+(r.length+1))))::(r ++ [(.array .int,List.replicate 32 (.int 0))])) Q:=w_iarr (n:=32) rfl hH hk d0 rfl d16 (fun _ => rfl) (by decide) d13 rfl (by decide +kernel) (by decide) (by decide) rfl (dc (.putfield 28,3)) pf0_28 hj
theorem pf0_31:pfR tables_1 y0.cls y0.name 31=some ("AgentExprDbg", 7,.array .int):=by decide +kernel
theorem m0_60a (hH:H.length=b) (hk:1≤b) {vs:List Value}{r:AHeap} (hj:7 < vs.length):M0 60 (.val (.ref b)::[l1,l2,l3,l4]) [] (H ++ (.object "AgentExprDbg", vs)::r) Q=M0 67 (.val (.ref b)::[l1,l2,l3,l4]) [] (H ++ (.object "AgentExprDbg", vs.set 7 (.ref (b+(r.length+1))))::(r ++ [(.array .int,List.replicate 4 (.int 0))])) Q:=w_iarr (n:=4) rfl hH hk d0 rfl d12 (fun _ => rfl) (by decide) d13 rfl (by decide +kernel) (by decide) (by decide) rfl (dc (.putfield 31,3)) pf0_31 hj
theorem pf0_34:pfR tables_1 y0.cls y0.name 34=some ("AgentExprDbg", 8,.array .int):=by decide +kernel
theorem m0_67a (hH:H.length=b) (hk:1≤b) {vs:List Value}{r:AHeap} (hj:8 < vs.length):M0 67 (.val (.ref b)::[l1,l2,l3,l4]) [] (H ++ (.object "AgentExprDbg", vs)::r) Q=M0 74 (.val (.ref b)::[l1,l2,l3,l4]) [] (H ++ (.object "AgentExprDbg", vs.set 8 (.ref (b+(r.length+1))))::(r ++ [(.array .int,List.replicate 4 (.int 0))])) Q:=w_iarr (n:=4) rfl hH hk d0 rfl d12 (fun _ => rfl) (by decide) d13 rfl (by decide +kernel) (by decide) (by decide) rfl (dc (.putfield 34,3)) pf0_34 hj
theorem pf0_37:pfR tables_1 y0.cls y0.name 37=some ("AgentExprDbg", 9,.array .int):=by decide +kernel
theorem m0_74a (hH:H.length=b) (hk:1≤b) {vs:List Value}{r:AHeap} (hj:9 < vs.length):M0 74 (.val (.ref b)::[l1,l2,l3,l4]) [] (H ++ (.object "AgentExprDbg", vs)::r) Q=M0 81 (.val (.ref b)::[l1,l2,l3,l4]) [] (H ++ (.object "AgentExprDbg", vs.set 9 (.ref (b+(r.length+1))))::(r ++ [(.array .int,List.replicate 4 (.int 0))])) Q:=w_iarr (n:=4) rfl hH hk d0 rfl d12 (fun _ => rfl) (by decide) d13 rfl (by decide +kernel) (by decide) (by decide) rfl (dc (.putfield 37,3)) pf0_37 hj
theorem pf0_40:pfR tables_1 y0.cls y0.name 40=some ("AgentExprDbg", 10,.array .int):=by decide +kernel
theorem m0_81a (hH:H.length=b) (hk:1≤b) {vs:List Value}{r:AHeap} (hj:10 < vs.length):M0 81 (.val (.ref b)::[l1,l2,l3,l4]) [] (H ++ (.object "AgentExprDbg", vs)::r) Q=M0 88 (.val (.ref b)::[l1,l2,l3,l4]) [] (H ++ (.object "AgentExprDbg", vs.set 10 (.ref (b+(r.length+1))))::(r ++ [(.array .int,List.replicate 4 (.int 0))])) Q:=w_iarr (n:=4) rfl hH hk d0 rfl d12 (fun _ => rfl) (by decide) d13 rfl (by decide +kernel) (by decide) (by decide) rfl (dc (.putfield 40,3)) pf0_40 hj
theorem pf0_43:pfR tables_1 y0.cls y0.name 43=some ("AgentExprDbg", 11,.array .int):=by decide +kernel
theorem m0_88a (hH:H.length=b) (hk:1≤b) {vs:List Value}{r:AHeap} (hj:11 < vs.length):M0 88 (.val (.ref b)::[l1,l2,l3,l4]) [] (H ++ (.object "AgentExprDbg", vs)::r) Q=M0 95 (.val (.ref b)::[l1,l2,l3,l4]) [] (H ++ (.object "AgentExprDbg", vs.set 11 (.ref (b+(r.length+1))))::(r ++ [(.array .int,List.replicate 4 (.int 0))])) Q:=w_iarr (n:=4) rfl hH hk d0 rfl d12 (fun _ => rfl) (by decide) d13 rfl (by decide +kernel) (by decide) (by decide) rfl (dc (.putfield 43,3)) pf0_43 hj
theorem pf0_46:pfR tables_1 y0.cls y0.name 46=some ("AgentExprDbg", 12,.array .int):=by decide +kernel
theorem m0_95a (hH:H.length=b) (hk:1≤b) {vs:List Value}{r:AHeap} (hj:12 < vs.length):M0 95 (.val (.ref b)::[l1,l2,l3,l4]) [] (H ++ (.object "AgentExprDbg", vs)::r) Q=M0 102 (.val (.ref b)::[l1,l2,l3,l4]) [] (H ++ (.object "AgentExprDbg", vs.set 12 (.ref (b+(r.length+1))))::(r ++ [(.array .int,List.replicate 4 (.int 0))])) Q:=w_iarr (n:=4) rfl hH hk d0 rfl d12 (fun _ => rfl) (by decide) d13 rfl (by decide +kernel) (by decide) (by decide) rfl (dc (.putfield 46,3)) pf0_46 hj
theorem pf0_49:pfR tables_1 y0.cls y0.name 49=some ("AgentExprDbg", 13,.array .int):=by decide +kernel
theorem m0_102a (hH:H.length=b) (hk:1≤b) {vs:List Value}{r:AHeap} (hj:13 < vs.length):M0 102 (.val (.ref b)::[l1,l2,l3,l4]) [] (H ++ (.object "AgentExprDbg", vs)::r) Q=M0 111 (.val (.ref b)::[l1,l2,l3,l4]) [] (H ++ (.object "AgentExprDbg", vs.set 13 (.ref (b+(r.length+1))))::(r ++ [(.array .int,List.replicate 256 (.int 0))])) Q:=w_iarr (n:=256) rfl hH hk d0 rfl (dc (.sipush 256,3)) (fun _ => rfl) (by decide) d13 rfl (by decide +kernel) (by decide) (by decide) rfl (dc (.putfield 49,3)) pf0_49 hj
theorem pf0_52:pfR tables_1 y0.cls y0.name 52=some ("AgentExprDbg", 14,.array .int):=by decide +kernel
theorem m0_111a (hH:H.length=b) (hk:1≤b) {vs:List Value}{r:AHeap} (hj:14 < vs.length):M0 111 (.val (.ref b)::[l1,l2,l3,l4]) [] (H ++ (.object "AgentExprDbg", vs)::r) Q=M0 120 (.val (.ref b)::[l1,l2,l3,l4]) [] (H ++ (.object "AgentExprDbg", vs.set 14 (.ref (b+(r.length+1))))::(r ++ [(.array .int,List.replicate 256 (.int 0))])) Q:=w_iarr (n:=256) rfl hH hk d0 rfl (dc (.sipush 256,3)) (fun _ => rfl) (by decide) d13 rfl (by decide +kernel) (by decide) (by decide) rfl (dc (.putfield 52,3)) pf0_52 hj
theorem pf0_55:pfR tables_1 y0.cls y0.name 55=some ("AgentExprDbg", 15,.array .int):=by decide +kernel
theorem m0_120a (hH:H.length=b) (hk:1≤b) {vs:List Value}{r:AHeap} (hj:15 < vs.length):M0 120 (.val (.ref b)::[l1,l2,l3,l4]) [] (H ++ (.object "AgentExprDbg", vs)::r) Q=M0 128 (.val (.ref b)::[l1,l2,l3,l4]) [] (H ++ (.object "AgentExprDbg", vs.set 15 (.ref (b+(r.length+1))))::(r ++ [(.array .int,List.replicate 16 (.int 0))])) Q:=w_iarr (n:=16) rfl hH hk d0 rfl (dc (.bipush 16,2)) (fun _ => rfl) (by decide) d13 rfl (by decide +kernel) (by decide) (by decide) rfl (dc (.putfield 55,3)) pf0_55 hj
theorem pf0_58:pfR tables_1 y0.cls y0.name 58=some ("AgentExprDbg", 16,.array .int):=by decide +kernel
theorem m0_128a (hH:H.length=b) (hk:1≤b) {vs:List Value}{r:AHeap} (hj:16 < vs.length):M0 128 (.val (.ref b)::[l1,l2,l3,l4]) [] (H ++ (.object "AgentExprDbg", vs)::r) Q=M0 136 (.val (.ref b)::[l1,l2,l3,l4]) [] (H ++ (.object "AgentExprDbg", vs.set 16 (.ref (b+(r.length+1))))::(r ++ [(.array .int,List.replicate 16 (.int 0))])) Q:=w_iarr (n:=16) rfl hH hk d0 rfl (dc (.bipush 16,2)) (fun _ => rfl) (by decide) d13 rfl (by decide +kernel) (by decide) (by decide) rfl (dc (.putfield 58,3)) pf0_58 hj
theorem pf0_61:pfR tables_1 y0.cls y0.name 61=some ("AgentExprDbg", 17,.array .int):=by decide +kernel
theorem m0_136a (hH:H.length=b) (hk:1≤b) {vs:List Value}{r:AHeap} (hj:17 < vs.length):M0 136 (.val (.ref b)::[l1,l2,l3,l4]) [] (H ++ (.object "AgentExprDbg", vs)::r) Q=M0 144 (.val (.ref b)::[l1,l2,l3,l4]) [] (H ++ (.object "AgentExprDbg", vs.set 17 (.ref (b+(r.length+1))))::(r ++ [(.array .int,List.replicate 64 (.int 0))])) Q:=w_iarr (n:=64) rfl hH hk d0 rfl d31 (fun _ => rfl) (by decide) d13 rfl (by decide +kernel) (by decide) (by decide) rfl (dc (.putfield 61,3)) pf0_61 hj
theorem pf0_64:pfR tables_1 y0.cls y0.name 64=some ("AgentExprDbg", 18,.array .int):=by decide +kernel
theorem m0_144a (hH:H.length=b) (hk:1≤b) {vs:List Value}{r:AHeap} (hj:18 < vs.length):M0 144 (.val (.ref b)::[l1,l2,l3,l4]) [] (H ++ (.object "AgentExprDbg", vs)::r) Q=M0 152 (.val (.ref b)::[l1,l2,l3,l4]) [] (H ++ (.object "AgentExprDbg", vs.set 18 (.ref (b+(r.length+1))))::(r ++ [(.array .int,List.replicate 64 (.int 0))])) Q:=w_iarr (n:=64) rfl hH hk d0 rfl d31 (fun _ => rfl) (by decide) d13 rfl (by decide +kernel) (by decide) (by decide) rfl (dc (.putfield 64,3)) pf0_64 hj
theorem pf0_67:pfR tables_1 y0.cls y0.name 67=some ("AgentExprDbg", 19,.array .int):=by decide +kernel
theorem m0_152a (hH:H.length=b) (hk:1≤b) {vs:List Value}{r:AHeap} (hj:19 < vs.length):M0 152 (.val (.ref b)::[l1,l2,l3,l4]) [] (H ++ (.object "AgentExprDbg", vs)::r) Q=M0 159 (.val (.ref b)::[l1,l2,l3,l4]) [] (H ++ (.object "AgentExprDbg", vs.set 19 (.ref (b+(r.length+1))))::(r ++ [(.array .int,List.replicate 4 (.int 0))])) Q:=w_iarr (n:=4) rfl hH hk d0 rfl d12 (fun _ => rfl) (by decide) d13 rfl (by decide +kernel) (by decide) (by decide) rfl (dc (.putfield 67,3)) pf0_67 hj
theorem pf0_70:pfR tables_1 y0.cls y0.name 70=some ("AgentExprDbg", 20,.array .int):=by decide +kernel
theorem m0_159a (hH:H.length=b) (hk:1≤b) {vs:List Value}{r:AHeap} (hj:20 < vs.length):M0 159 (.val (.ref b)::[l1,l2,l3,l4]) [] (H ++ (.object "AgentExprDbg", vs)::r) Q=M0 166 (.val (.ref b)::[l1,l2,l3,l4]) [] (H ++ (.object "AgentExprDbg", vs.set 20 (.ref (b+(r.length+1))))::(r ++ [(.array .int,List.replicate 4 (.int 0))])) Q:=w_iarr (n:=4) rfl hH hk d0 rfl d12 (fun _ => rfl) (by decide) d13 rfl (by decide +kernel) (by decide) (by decide) rfl (dc (.putfield 70,3)) pf0_70 hj
theorem pf0_73:pfR tables_1 y0.cls y0.name 73=some ("AgentExprDbg", 21,.array .int):=by decide +kernel
theorem m0_166a (hH:H.length=b) (hk:1≤b) {vs:List Value}{r:AHeap} (hj:21 < vs.length):M0 166 (.val (.ref b)::[l1,l2,l3,l4]) [] (H ++ (.object "AgentExprDbg", vs)::r) Q=M0 174 (.val (.ref b)::[l1,l2,l3,l4]) [] (H ++ (.object "AgentExprDbg", vs.set 21 (.ref (b+(r.length+1))))::(r ++ [(.array .int,List.replicate 32 (.int 0))])) Q:=w_iarr (n:=32) rfl hH hk d0 rfl d16 (fun _ => rfl) (by decide) d13 rfl (by decide +kernel) (by decide) (by decide) rfl (dc (.putfield 73,3)) pf0_73 hj
theorem pf0_76:pfR tables_1 y0.cls y0.name 76=some ("AgentExprDbg", 22,.array .int):=by decide +kernel
theorem m0_174a (hH:H.length=b) (hk:1≤b) {vs:List Value}{r:AHeap} (hj:22 < vs.length):M0 174 (.val (.ref b)::[l1,l2,l3,l4]) [] (H ++ (.object "AgentExprDbg", vs)::r) Q=M0 182 (.val (.ref b)::[l1,l2,l3,l4]) [] (H ++ (.object "AgentExprDbg", vs.set 22 (.ref (b+(r.length+1))))::(r ++ [(.array .int,List.replicate 32 (.int 0))])) Q:=w_iarr (n:=32) rfl hH hk d0 rfl d16 (fun _ => rfl) (by decide) d13 rfl (by decide +kernel) (by decide) (by decide) rfl (dc (.putfield 76,3)) pf0_76 hj
theorem pf0_79:pfR tables_1 y0.cls y0.name 79=some ("AgentExprDbg", 23,.array .int):=by decide +kernel
theorem m0_182a (hH:H.length=b) (hk:1≤b) {vs:List Value}{r:AHeap} (hj:23 < vs.length):M0 182 (.val (.ref b)::[l1,l2,l3,l4]) [] (H ++ (.object "AgentExprDbg", vs)::r) Q=M0 190 (.val (.ref b)::[l1,l2,l3,l4]) [] (H ++ (.object "AgentExprDbg", vs.set 23 (.ref (b+(r.length+1))))::(r ++ [(.array .int,List.replicate 32 (.int 0))])) Q:=w_iarr (n:=32) rfl hH hk d0 rfl d16 (fun _ => rfl) (by decide) d13 rfl (by decide +kernel) (by decide) (by decide) rfl (dc (.putfield 79,3)) pf0_79 hj
theorem pf0_82:pfR tables_1 y0.cls y0.name 82=some ("AgentExprDbg", 24,.array .int):=by decide +kernel
theorem m0_190a (hH:H.length=b) (hk:1≤b) {vs:List Value}{r:AHeap} (hj:24 < vs.length):M0 190 (.val (.ref b)::[l1,l2,l3,l4]) [] (H ++ (.object "AgentExprDbg", vs)::r) Q=M0 198 (.val (.ref b)::[l1,l2,l3,l4]) [] (H ++ (.object "AgentExprDbg", vs.set 24 (.ref (b+(r.length+1))))::(r ++ [(.array .int,List.replicate 40 (.int 0))])) Q:=w_iarr (n:=40) rfl hH hk d0 rfl (dc (.bipush 40,2)) (fun _ => rfl) (by decide) d13 rfl (by decide +kernel) (by decide) (by decide) rfl (dc (.putfield 82,3)) pf0_82 hj
theorem pf0_85:pfR tables_1 y0.cls y0.name 85=some ("AgentExprDbg", 25,.array .int):=by decide +kernel
theorem m0_198a (hH:H.length=b) (hk:1≤b) {vs:List Value}{r:AHeap} (hj:25 < vs.length):M0 198 (.val (.ref b)::[l1,l2,l3,l4]) [] (H ++ (.object "AgentExprDbg", vs)::r) Q=M0 206 (.val (.ref b)::[l1,l2,l3,l4]) [] (H ++ (.object "AgentExprDbg", vs.set 25 (.ref (b+(r.length+1))))::(r ++ [(.array .int,List.replicate 8 (.int 0))])) Q:=w_iarr (n:=8) rfl hH hk d0 rfl d19 (fun _ => rfl) (by decide) d13 rfl (by decide +kernel) (by decide) (by decide) rfl (dc (.putfield 85,3)) pf0_85 hj
theorem pf0_88:pfR tables_1 y0.cls y0.name 88=some ("AgentExprDbg", 26,.array .int):=by decide +kernel
theorem m0_206a (hH:H.length=b) (hk:1≤b) {vs:List Value}{r:AHeap} (hj:26 < vs.length):M0 206 (.val (.ref b)::[l1,l2,l3,l4]) [] (H ++ (.object "AgentExprDbg", vs)::r) Q=M0 214 (.val (.ref b)::[l1,l2,l3,l4]) [] (H ++ (.object "AgentExprDbg", vs.set 26 (.ref (b+(r.length+1))))::(r ++ [(.array .int,List.replicate 8 (.int 0))])) Q:=w_iarr (n:=8) rfl hH hk d0 rfl d19 (fun _ => rfl) (by decide) d13 rfl (by decide +kernel) (by decide) (by decide) rfl (dc (.putfield 88,3)) pf0_88 hj
theorem pf0_91:pfR tables_1 y0.cls y0.name 91=some ("AgentExprDbg", 27,.array .int):=by decide +kernel
theorem m0_214a (hH:H.length=b) (hk:1≤b) {vs:List Value}{r:AHeap} (hj:27 < vs.length):M0 214 (.val (.ref b)::[l1,l2,l3,l4]) [] (H ++ (.object "AgentExprDbg", vs)::r) Q=M0 222 (.val (.ref b)::[l1,l2,l3,l4]) [] (H ++ (.object "AgentExprDbg", vs.set 27 (.ref (b+(r.length+1))))::(r ++ [(.array .int,List.replicate 8 (.int 0))])) Q:=w_iarr (n:=8) rfl hH hk d0 rfl d19 (fun _ => rfl) (by decide) d13 rfl (by decide +kernel) (by decide) (by decide) rfl (dc (.putfield 91,3)) pf0_91 hj
theorem pf0_94:pfR tables_1 y0.cls y0.name 94=some ("AgentExprDbg", 28,.array .int):=by decide +kernel
theorem m0_222a (hH:H.length=b) (hk:1≤b) {vs:List Value}{r:AHeap} (hj:28 < vs.length):M0 222 (.val (.ref b)::[l1,l2,l3,l4]) [] (H ++ (.object "AgentExprDbg", vs)::r) Q=M0 230 (.val (.ref b)::[l1,l2,l3,l4]) [] (H ++ (.object "AgentExprDbg", vs.set 28 (.ref (b+(r.length+1))))::(r ++ [(.array .int,List.replicate 8 (.int 0))])) Q:=w_iarr (n:=8) rfl hH hk d0 rfl d19 (fun _ => rfl) (by decide) d13 rfl (by decide +kernel) (by decide) (by decide) rfl (dc (.putfield 94,3)) pf0_94 hj
theorem pf0_97:pfR tables_1 y0.cls y0.name 97=some ("AgentExprDbg", 29,.array .int):=by decide +kernel
theorem m0_230a (hH:H.length=b) (hk:1≤b) {vs:List Value}{r:AHeap} (hj:29 < vs.length):M0 230 (.val (.ref b)::[l1,l2,l3,l4]) [] (H ++ (.object "AgentExprDbg", vs)::r) Q=M0 238 (.val (.ref b)::[l1,l2,l3,l4]) [] (H ++ (.object "AgentExprDbg", vs.set 29 (.ref (b+(r.length+1))))::(r ++ [(.array .int,List.replicate 8 (.int 0))])) Q:=w_iarr (n:=8) rfl hH hk d0 rfl d19 (fun _ => rfl) (by decide) d13 rfl (by decide +kernel) (by decide) (by decide) rfl (dc (.putfield 97,3)) pf0_97 hj
theorem pf0_100:pfR tables_1 y0.cls y0.name 100=some ("AgentExprDbg", 30,.array .int):=by decide +kernel
theorem m0_238a (hH:H.length=b) (hk:1≤b) {vs:List Value}{r:AHeap} (hj:30 < vs.length):M0 238 (.val (.ref b)::[l1,l2,l3,l4]) [] (H ++ (.object "AgentExprDbg", vs)::r) Q=M0 246 (.val (.ref b)::[l1,l2,l3,l4]) [] (H ++ (.object "AgentExprDbg", vs.set 30 (.ref (b+(r.length+1))))::(r ++ [(.array .int,List.replicate 24 (.int 0))])) Q:=w_iarr (n:=24) rfl hH hk d0 rfl (dc (.bipush 24,2)) (fun _ => rfl) (by decide) d13 rfl (by decide +kernel) (by decide) (by decide) rfl (dc (.putfield 100,3)) pf0_100 hj
theorem pf0_103:pfR tables_1 y0.cls y0.name 103=some ("AgentExprDbg", 31,.array .int):=by decide +kernel
theorem m0_246a (hH:H.length=b) (hk:1≤b) {vs:List Value}{r:AHeap} (hj:31 < vs.length):M0 246 (.val (.ref b)::[l1,l2,l3,l4]) [] (H ++ (.object "AgentExprDbg", vs)::r) Q=M0 253 (.val (.ref b)::[l1,l2,l3,l4]) [] (H ++ (.object "AgentExprDbg", vs.set 31 (.ref (b+(r.length+1))))::(r ++ [(.array .int,List.replicate 3 (.int 0))])) Q:=w_iarr (n:=3) rfl hH hk d0 rfl d15 (fun _ => rfl) (by decide) d13 rfl (by decide +kernel) (by decide) (by decide) rfl (dc (.putfield 103,3)) pf0_103 hj
def A0:Nat→List Int32
  | 0 => List.replicate 8 0
  | 1 => List.replicate 32 0
  | 2 => List.replicate 32 0
  | 3 => List.replicate 32 0
  | 4 => List.replicate 32 0
  | 5 => List.replicate 32 0
  | 6 => List.replicate 32 0
  | 7 => List.replicate 4 0
  | 8 => List.replicate 4 0
  | 9 => List.replicate 4 0
  | 10 => List.replicate 4 0
  | 11 => List.replicate 4 0
  | 12 => List.replicate 4 0
  | 13 => List.replicate 256 0
  | 14 => List.replicate 256 0
  | 15 => List.replicate 16 0
  | 16 => List.replicate 16 0
  | 17 => List.replicate 64 0
  | 18 => List.replicate 64 0
  | 19 => List.replicate 4 0
  | 20 => List.replicate 4 0
  | 21 => List.replicate 32 0
  | 22 => List.replicate 32 0
  | 23 => List.replicate 32 0
  | 24 => List.replicate 40 0
  | 25 => List.replicate 8 0
  | 26 => List.replicate 8 0
  | 27 => List.replicate 8 0
  | 28 => List.replicate 8 0
  | 29 => List.replicate 8 0
  | 30 => List.replicate 24 0
  | 31 => List.replicate 3 0
  | _ => []
theorem A0l_0:(A0 0).length=8:=List.length_replicate
theorem A0g_0 (j:Int32):getA (A0 0) j=0:=getA_rep _ _
theorem A0l_1:(A0 1).length=32:=List.length_replicate
theorem A0g_1 (j:Int32):getA (A0 1) j=0:=getA_rep _ _
theorem A0l_2:(A0 2).length=32:=List.length_replicate
theorem A0g_2 (j:Int32):getA (A0 2) j=0:=getA_rep _ _
theorem A0l_3:(A0 3).length=32:=List.length_replicate
theorem A0g_3 (j:Int32):getA (A0 3) j=0:=getA_rep _ _
theorem A0l_4:(A0 4).length=32:=List.length_replicate
theorem A0g_4 (j:Int32):getA (A0 4) j=0:=getA_rep _ _
theorem A0l_5:(A0 5).length=32:=List.length_replicate
theorem A0g_5 (j:Int32):getA (A0 5) j=0:=getA_rep _ _
theorem A0l_6:(A0 6).length=32:=List.length_replicate
theorem A0g_6 (j:Int32):getA (A0 6) j=0:=getA_rep _ _
theorem A0l_7:(A0 7).length=4:=List.length_replicate
theorem A0g_7 (j:Int32):getA (A0 7) j=0:=getA_rep _ _
theorem A0l_8:(A0 8).length=4:=List.length_replicate
theorem A0g_8 (j:Int32):getA (A0 8) j=0:=getA_rep _ _
theorem A0l_9:(A0 9).length=4:=List.length_replicate
theorem A0g_9 (j:Int32):getA (A0 9) j=0:=getA_rep _ _
theorem A0l_10:(A0 10).length=4:=List.length_replicate
theorem A0g_10 (j:Int32):getA (A0 10) j=0:=getA_rep _ _
theorem A0l_11:(A0 11).length=4:=List.length_replicate
theorem A0g_11 (j:Int32):getA (A0 11) j=0:=getA_rep _ _
theorem A0l_12:(A0 12).length=4:=List.length_replicate
theorem A0g_12 (j:Int32):getA (A0 12) j=0:=getA_rep _ _
theorem A0l_13:(A0 13).length=256:=List.length_replicate
theorem A0g_13 (j:Int32):getA (A0 13) j=0:=getA_rep _ _
theorem A0l_14:(A0 14).length=256:=List.length_replicate
theorem A0g_14 (j:Int32):getA (A0 14) j=0:=getA_rep _ _
theorem A0l_15:(A0 15).length=16:=List.length_replicate
theorem A0g_15 (j:Int32):getA (A0 15) j=0:=getA_rep _ _
theorem A0l_16:(A0 16).length=16:=List.length_replicate
theorem A0g_16 (j:Int32):getA (A0 16) j=0:=getA_rep _ _
theorem A0l_17:(A0 17).length=64:=List.length_replicate
theorem A0g_17 (j:Int32):getA (A0 17) j=0:=getA_rep _ _
theorem A0l_18:(A0 18).length=64:=List.length_replicate
theorem A0g_18 (j:Int32):getA (A0 18) j=0:=getA_rep _ _
theorem A0l_19:(A0 19).length=4:=List.length_replicate
theorem A0g_19 (j:Int32):getA (A0 19) j=0:=getA_rep _ _
theorem A0l_20:(A0 20).length=4:=List.length_replicate
theorem A0g_20 (j:Int32):getA (A0 20) j=0:=getA_rep _ _
theorem A0l_21:(A0 21).length=32:=List.length_replicate
theorem A0g_21 (j:Int32):getA (A0 21) j=0:=getA_rep _ _
theorem A0l_22:(A0 22).length=32:=List.length_replicate
theorem A0g_22 (j:Int32):getA (A0 22) j=0:=getA_rep _ _
theorem A0l_23:(A0 23).length=32:=List.length_replicate
theorem A0g_23 (j:Int32):getA (A0 23) j=0:=getA_rep _ _
theorem A0l_24:(A0 24).length=40:=List.length_replicate
theorem A0g_24 (j:Int32):getA (A0 24) j=0:=getA_rep _ _
theorem A0l_25:(A0 25).length=8:=List.length_replicate
theorem A0g_25 (j:Int32):getA (A0 25) j=0:=getA_rep _ _
theorem A0l_26:(A0 26).length=8:=List.length_replicate
theorem A0g_26 (j:Int32):getA (A0 26) j=0:=getA_rep _ _
theorem A0l_27:(A0 27).length=8:=List.length_replicate
theorem A0g_27 (j:Int32):getA (A0 27) j=0:=getA_rep _ _
theorem A0l_28:(A0 28).length=8:=List.length_replicate
theorem A0g_28 (j:Int32):getA (A0 28) j=0:=getA_rep _ _
theorem A0l_29:(A0 29).length=8:=List.length_replicate
theorem A0g_29 (j:Int32):getA (A0 29) j=0:=getA_rep _ _
theorem A0l_30:(A0 30).length=24:=List.length_replicate
theorem A0g_30 (j:Int32):getA (A0 30) j=0:=getA_rep _ _
theorem A0l_31:(A0 31).length=3:=List.length_replicate
theorem A0g_31 (j:Int32):getA (A0 31) j=0:=getA_rep _ _
theorem own_ctor0 (hb:pre.length=b) (hk:1≤b):M0 0 (.val (.ref b)::[l1,l2,l3,l4]) [] (pre ++ [(.object "AgentExprDbg", D0)]) Q=M0 253 (.val (.ref b)::[l1,l2,l3,l4]) [] (put b pre (fun _ => 0) A0 []) Q:=by
  rw [m0_0,m0_1,m0_4a hb hk (by (repeat rw [List.length_set]); exact Nat.le_of_ble_eq_true rfl),m0_12a hb hk (by (repeat rw [List.length_set]); exact Nat.le_of_ble_eq_true rfl),m0_20a hb hk (by (repeat rw [List.length_set]); exact Nat.le_of_ble_eq_true rfl),m0_28a hb hk (by (repeat rw [List.length_set]); exact Nat.le_of_ble_eq_true rfl),m0_36a hb hk (by (repeat rw [List.length_set]); exact Nat.le_of_ble_eq_true rfl),m0_44a hb hk (by (repeat rw [List.length_set]); exact Nat.le_of_ble_eq_true rfl),m0_52a hb hk (by (repeat rw [List.length_set]); exact Nat.le_of_ble_eq_true rfl),m0_60a hb hk (by (repeat rw [List.length_set]); exact Nat.le_of_ble_eq_true rfl),m0_67a hb hk (by (repeat rw [List.length_set]); exact Nat.le_of_ble_eq_true rfl),m0_74a hb hk (by (repeat rw [List.length_set]); exact Nat.le_of_ble_eq_true rfl),m0_81a hb hk (by (repeat rw [List.length_set]); exact Nat.le_of_ble_eq_true rfl),m0_88a hb hk (by (repeat rw [List.length_set]); exact Nat.le_of_ble_eq_true rfl),m0_95a hb hk (by (repeat rw [List.length_set]); exact Nat.le_of_ble_eq_true rfl),m0_102a hb hk (by (repeat rw [List.length_set]); exact Nat.le_of_ble_eq_true rfl),m0_111a hb hk (by (repeat rw [List.length_set]); exact Nat.le_of_ble_eq_true rfl),m0_120a hb hk (by (repeat rw [List.length_set]); exact Nat.le_of_ble_eq_true rfl),m0_128a hb hk (by (repeat rw [List.length_set]); exact Nat.le_of_ble_eq_true rfl),m0_136a hb hk (by (repeat rw [List.length_set]); exact Nat.le_of_ble_eq_true rfl),m0_144a hb hk (by (repeat rw [List.length_set]); exact Nat.le_of_ble_eq_true rfl),m0_152a hb hk (by (repeat rw [List.length_set]); exact Nat.le_of_ble_eq_true rfl),m0_159a hb hk (by (repeat rw [List.length_set]); exact Nat.le_of_ble_eq_true rfl),m0_166a hb hk (by (repeat rw [List.length_set]); exact Nat.le_of_ble_eq_true rfl),m0_174a hb hk (by (repeat rw [List.length_set]); exact Nat.le_of_ble_eq_true rfl),m0_182a hb hk (by (repeat rw [List.length_set]); exact Nat.le_of_ble_eq_true rfl),m0_190a hb hk (by (repeat rw [List.length_set]); exact Nat.le_of_ble_eq_true rfl),m0_198a hb hk (by (repeat rw [List.length_set]); exact Nat.le_of_ble_eq_true rfl),m0_206a hb hk (by (repeat rw [List.length_set]); exact Nat.le_of_ble_eq_true rfl),m0_214a hb hk (by (repeat rw [List.length_set]); exact Nat.le_of_ble_eq_true rfl),m0_222a hb hk (by (repeat rw [List.length_set]); exact Nat.le_of_ble_eq_true rfl),m0_230a hb hk (by (repeat rw [List.length_set]); exact Nat.le_of_ble_eq_true rfl),m0_238a hb hk (by (repeat rw [List.length_set]); exact Nat.le_of_ble_eq_true rfl),m0_246a hb hk (by (repeat rw [List.length_set]); exact Nat.le_of_ble_eq_true rfl)]
  simp only [put,pad_eq hb,objv,D0,A0,List.map_replicate,List.set_cons_succ,List.set_cons_zero,List.nil_append,List.cons_append,List.length_cons,List.length_nil,List.append_nil]
end Rules
theorem an {a b:Prop} (x:a) (y:b):a∧b:=⟨x,y⟩
def k14_0:=an (an (an @m14_0 @m14_7) (an @m14_16 @m14_17)) (an (an @m14_18 @m14_28) (an @m14_38 (an @m14_48 @m14_49)))
def k13_0:=an (an (an @m13_0 @m13_7) (an @m13_16 @m13_17)) (an (an @m13_18 @m13_28) (an @m13_38 @m13_39))
def k23_0:=an (an (an @m23_0 @m23_7) (an @m23_16 @m23_17)) (an (an @m23_18 @m23_28) (an @m23_38 (an @m23_48 @m23_49)))
def k24_0:=an (an @m24_0 (an @m24_5 @m24_11)) (an @m24_17 (an @m24_21 @m24_22))
def k20_0:=an (an @m20_0 @m20_6) (an @m20_12 (an @m20_16 @m20_17))
def k22_0:=an (an (an (an @m22_0 @m22_6) (an @m22_12 @m22_18)) (an (an @m22_20 @m22_21) (an @m22_27 @m22_33))) (an (an (an @m22_34 @m22_35) (an @m22_41 @m22_47)) (an (an @m22_48 @m22_49) (an @m22_55 @m22_61)))
def k22_1:=an (an (an @m22_62 (an @m22_63 @m22_69)) (an (an @m22_70 @m22_71) (an @m22_77 @m22_78))) (an (an @m22_79 (an @m22_81 @m22_84)) (an (an @m22_87 @m22_89) (an @m22_90 @m22_91)))
def k26_0:=an (an (an @m26_0 (an @m26_8 @m26_17)) (an (an @m26_18 @m26_19) (an @m26_30u @m26_31))) (an (an (an @m26_42u @m26_43) (an @m26_53 @m26_72)) (an (an @m26_76 @m26_77) (an @m26_78 @m26_79)))
def k25_0:=an (an (an (an @m25_0 @m25_2) (an @m25_5 @m25_8)) (an (an @m25_16 @m25_17) (an @m25_18 @m25_21))) (an (an (an @m25_24 @m25_25) (an @m25_26 @m25_29)) (an (an @m25_32 @m25_33) (an @m25_34 @m25_40)))
def k25_1:=an (an (an @m25_46 (an @m25_50 @m25_53)) (an @m25_56 (an @m25_57 @m25_58))) (an (an @m25_62 (an @m25_68 @m25_78)) (an (an @m25_79 @m25_80) (an @m25_83 @m25_86)))
def k16_0:=an (an (an (an @m16_8 @m16_15) (an @m16_26g @m16_27)) (an (an @m16_32 @m16_33) (an @m16_34 @m16_36))) (an (an (an @m16_39 @m16_40) (an @m16_43 @m16_44)) (an (an @m16_45 @m16_55) (an @m16_66 @m16_69)))
def k16_1:=an (an @m16_72 @m16_73) (an @m16_74 (an @m16_80 @m16_81))
def k17_0:=an (an (an (an @m17_0 @m17_8) (an @m17_9 @m17_10)) (an (an @m17_16u @m17_17) (an @m17_25 @m17_30))) (an (an (an @m17_37 @m17_45) (an @m17_58 @m17_71)) (an (an @m17_81 @m17_89) (an @m17_94 @m17_95)))
def k15_0:=an (an (an @m15_0 (an @m15_7 @m15_8)) (an (an @m15_9 @m15_11) (an @m15_14 @m15_17))) (an (an @m15_18 (an @m15_19 @m15_26)) (an (an @m15_27 @m15_28) (an @m15_29 @m15_32)))
def k37_0:=an (an (an (an @m37_0 @m37_2) (an @m37_5 @m37_8)) (an (an @m37_9 @m37_10) (an @m37_17 @m37_18))) (an (an (an @m37_19 @m37_20) (an @m37_23 @m37_26)) (an (an @m37_27 @m37_28) (an @m37_33 @m37_34)))
def k36_0:=an (an (an @m36_0 (an @m36_2 @m36_5)) (an (an @m36_8 @m36_9) (an @m36_10 @m36_17))) (an (an @m36_28 (an @m36_29 @m36_32)) (an (an @m36_33 @m36_34) (an @m36_44 @m36_45)))
def k21_0:=an (an (an (an @m21_0 @m21_2) (an @m21_5u @m21_6)) (an (an @m21_8 @m21_11) (an @m21_14 @m21_15))) (an (an (an @m21_16 @m21_27) (an @m21_33 @m21_36)) (an (an @m21_39 @m21_42) (an @m21_43 @m21_44)))
def k21_1:=an (an @m21_47 (an @m21_50 @m21_53)) (an (an @m21_54 @m21_55) (an @m21_60 @m21_61))
def k12_0:=an (an (an (an @m12_0 @m12_4) (an @m12_9 @m12_11)) (an (an @m12_14 @m12_17) (an @m12_18 @m12_19))) (an (an (an @m12_22 @m12_25) (an @m12_28 @m12_29)) (an (an @m12_30 @m12_35) (an @m12_36 @m12_37)))
def k12_1:=an (an (an @m12_39 @m12_42) (an @m12_45 @m12_50)) (an (an @m12_53 @m12_56) (an @m12_57 @m12_58))
def k19_0:=an (an (an (an @m19_0 @m19_5) (an @m19_6 @m19_9)) (an (an @m19_10 @m19_15) (an @m19_16 @m19_19))) (an (an (an @m19_20 @m19_22) (an @m19_25 @m19_28)) (an (an @m19_29 @m19_30) (an @m19_32 @m19_35)))
def k10_0:=an (an @m10_0 (an @m10_1 @m10_4)) (an @m10_11 (an @m10_12 @m10_13))
def k10_1:=an (an (an (an @m10_21 @m10_29) (an @m10_35g @m10_36)) (an (an @m10_42g @m10_43) (an @m10_50 @m10_53))) (an (an (an @m10_56 @m10_59) (an @m10_61 @m10_64g)) (an (an @m10_66 @m10_71) (an @m10_72 @m10_73)))
def k10_2:=an @m10_79 (an @m10_80 @m10_83)
def k11_0:=an (an (an @m11_0 @m11_5) (an @m11_10 @m11_15)) (an (an @m11_20 @m11_25) (an @m11_30 @m11_35))
def k18_0:=an (an @m18_0 @m18_4) (an @m18_7 (an @m18_10 @m18_11))
def k18_2:=an (an (an (an @m18_98 @m18_106) (an @m18_110 @m18_111g)) (an (an @m18_113 @m18_127) (an @m18_133 @m18_136))) (an (an (an @m18_137 @m18_138) (an @m18_152 @m18_158)) (an (an @m18_161 @m18_162) (an @m18_163 @m18_169)))
def k18_3:=an (an @m18_179 (an @m18_189 @m18_195)) (an @m18_198 (an @m18_205 @m18_212))
def k18_1:=an (an (an (an @m18_24 @m18_32) (an @m18_36 @m18_37g)) (an (an @m18_39 @m18_51) (an @m18_57 @m18_60))) (an (an (an @m18_61 @m18_62) (an @m18_74 @m18_80)) (an (an @m18_83 @m18_84) (an @m18_85 @m18_91)))
def k2_0:=an (an @m2_0 @m2_5) (an @m2_10 (an @m2_14 @m2_15))
def k8_0:=an (an @m8_0 (an @m8_2 @m8_5u)) (an @m8_6 (an @m8_11 @m8_12))
def k9_0:=an (an (an (an @m9_0 @m9_4) (an @m9_7 @m9_10)) (an (an @m9_11 @m9_12) (an @m9_13 @m9_16))) (an (an (an @m9_19 @m9_20) (an @m9_21 @m9_29)) (an (an @m9_30 @m9_31) (an @m9_40 @m9_41)))
def k9_1:=an (an @m9_42 @m9_44) (an @m9_47 @m9_48)
def k28_0:=an (an (an @m28_7 @m28_13) (an @m28_14 (an @m28_17 @m28_23))) (an (an @m28_24 (an @m28_27 @m28_28)) (an @m28_29 (an @m28_35 @m28_36)))
def k35_0:=an (an (an @m35_0 (an @m35_4 @m35_7)) (an @m35_10 (an @m35_11 @m35_12))) (an (an @m35_18 (an @m35_19 @m35_22)) (an (an @m35_23 @m35_24) (an @m35_31 @m35_32)))
def k6_0:=an (an (an (an @m6_0 @m6_4) (an @m6_7 @m6_10)) (an (an @m6_11 @m6_12) (an @m6_18 @m6_21))) (an (an (an @m6_22 @m6_23) (an @m6_28 @m6_31)) (an (an @m6_34 @m6_35) (an @m6_36 @m6_40)))
def k6_1:=an (an (an @m6_45 (an @m6_46 @m6_47)) (an (an @m6_49 @m6_52u) (an @m6_54 @m6_59))) (an (an (an @m6_65 @m6_66) (an @m6_67 @m6_74)) (an (an @m6_81 @m6_88) (an @m6_95 @m6_96)))
def k27_0:=an (an (an @m27_0 @m27_5) (an @m27_8 @m27_11)) (an (an @m27_12 @m27_13) (an @m27_20 @m27_21))
def k1_0:=an (an (an (an @m1_0 @m1_5) (an @m1_8 @m1_11)) (an (an @m1_18 @m1_19) (an @m1_20 @m1_26))) (an (an (an @m1_27 @m1_28) (an @m1_33 @m1_36)) (an (an @m1_39 @m1_40) (an @m1_41 @m1_46)))
def k1_1:=an @m1_51 (an @m1_56 @m1_57)
def k7_0:=an (an (an (an @m7_0 @m7_7) (an @m7_16 @m7_17)) (an (an @m7_18 @m7_23) (an @m7_26 @m7_29))) (an (an (an @m7_30 @m7_31) (an @m7_36 @m7_41)) (an (an @m7_44 @m7_47) (an @m7_48 @m7_49)))
def k7_1:=an (an (an @m7_59 @m7_63) (an @m7_68 @m7_78)) (an (an @m7_81 @m7_91) (an @m7_101 @m7_102))
def k3_0:=an (an (an (an @m3_0 @m3_6) (an @m3_9 @m3_12)) (an (an @m3_13 @m3_14) (an @m3_18 @m3_25))) (an (an (an @m3_32 @m3_39) (an @m3_40 @m3_41)) (an (an @m3_48 @m3_55) (an @m3_63 @m3_64)))
def k4_0:=an (an (an (an @m4_0 @m4_5) (an @m4_8 @m4_11)) (an (an @m4_12 @m4_13) (an @m4_18 @m4_21))) (an (an (an @m4_24 @m4_25) (an @m4_26 @m4_30)) (an (an @m4_31 @m4_32) (an @m4_37 @m4_40)))
def k4_1:=an (an @m4_43 @m4_44) (an @m4_45 (an @m4_49 @m4_52))
def k5_0:=an (an (an @m5_0 (an @m5_5 @m5_10)) (an @m5_15 (an @m5_21 @m5_26))) (an (an @m5_29 (an @m5_30 @m5_36)) (an (an @m5_41 @m5_44) (an @m5_45 @m5_46)))
def k44_0:=an (an @m44_0 @m44_7) (an @m44_16 (an @m44_26 @m44_36))
def k46_0:=an (an @m46_0 (an @m46_7 @m46_16)) (an (an @m46_26 @m46_35) (an @m46_36 @m46_37))
def k48_0:=an (an @m48_0 (an @m48_7 @m48_16)) (an @m48_27 (an @m48_28 @m48_29))
def k60_0:=an (an @m60_0 @m60_7) (an @m60_16 @m60_28)
def k59_0:=an (an (an (an @m59_0 @m59_5) (an @m59_8 @m59_9)) (an (an @m59_15 @m59_19) (an @m59_23 @m59_24))) (an (an (an @m59_25 @m59_30) (an @m59_33 @m59_36)) (an (an @m59_42 @m59_43) (an @m59_48 @m59_49)))
def k61_0:=an (an (an (an @m61_0 @m61_6) (an @m61_12 @m61_16)) (an (an @m61_17 @m61_20) (an @m61_21 @m61_27))) (an (an (an @m61_33 @m61_37) (an @m61_38 @m61_41)) (an (an @m61_42 @m61_48) (an @m61_54 @m61_58)))
def k61_1:=an (an (an (an @m61_59 @m61_62) (an @m61_63 @m61_69)) (an (an @m61_75 @m61_79) (an @m61_80 @m61_83))) (an (an (an @m61_84 @m61_90) (an @m61_96 @m61_100)) (an (an @m61_101 @m61_104) (an @m61_105 @m61_111)))
def k61_2:=an (an @m61_117 (an @m61_121 @m61_122)) (an @m61_125 (an @m61_126 @m61_127))
def k62_0:=an (an @m62_0 @m62_4) (an @m62_8 @m62_9)
def k47_0:=an (an (an (an @m47_0 @m47_6) (an @m47_9 @m47_10)) (an (an @m47_16 @m47_19) (an @m47_20 @m47_26))) (an (an (an @m47_29 @m47_30) (an @m47_36 @m47_42)) (an (an @m47_46 @m47_49) (an @m47_50 @m47_54)))
def k64_0:=an (an (an @m64_0 @m64_4) (an @m64_9 (an @m64_10 @m64_11))) (an (an @m64_17 (an @m64_19 @m64_20)) (an @m64_21 (an @m64_23 @m64_24)))
def k43_0:=an (an (an (an @m43_0 @m43_4) (an @m43_6 @m43_9)) (an (an @m43_12 @m43_13) (an @m43_18 @m43_28))) (an (an (an @m43_31 @m43_34) (an @m43_35 @m43_41)) (an (an @m43_47 @m43_51) (an @m43_54 @m43_55)))
def k43_1:=an (an (an (an @m43_61 @m43_62) (an @m43_65u @m43_67)) (an (an @m43_73 @m43_77) (an @m43_78 @m43_81))) (an (an (an @m43_84 @m43_85) (an @m43_87 @m43_90)) (an (an @m43_93 @m43_95) (an @m43_98 @m43_101)))
def k43_2:=an (an @m43_102 @m43_104) (an @m43_107 @m43_110)
def k57_0:=an (an (an (an @m57_0 @m57_1) (an @m57_4u @m57_6)) (an (an @m57_12 @m57_17) (an @m57_18 @m57_19))) (an (an (an @m57_25 @m57_30) (an @m57_32 @m57_35)) (an (an @m57_36 @m57_37) (an @m57_38 @m57_41)))
def k58_0:=an (an (an @m58_0 @m58_1) (an @m58_4u @m58_5)) (an (an @m58_8 @m58_11u) (an @m58_12 (an @m58_14 @m58_17)))
def k45_0:=an (an (an @m45_0 (an @m45_1 @m45_4u)) (an @m45_5 (an @m45_6 @m45_9u))) (an (an @m45_10 (an @m45_14 @m45_17u)) (an @m45_19 (an @m45_22 @m45_25)))
def k42_0:=an (an (an (an @m42_0 @m42_5) (an @m42_10 @m42_14)) (an (an @m42_17 @m42_20) (an @m42_24 @m42_27))) (an (an (an @m42_30 @m42_31) (an @m42_32 @m42_47u)) (an (an @m42_49 @m42_59u) (an @m42_61 @m42_68)))
def k42_1:=an (an (an @m42_82 (an @m42_87 @m42_94)) (an (an @m42_104 @m42_113) (an @m42_115 @m42_118i))) (an (an @m42_120 (an @m42_127 @m42_128)) (an (an @m42_129 @m42_135) (an @m42_136 @m42_139)))
def k32_0:=an (an (an (an @m32_0 @m32_11u) (an @m32_12 @m32_18)) (an (an @m32_20 @m32_21u) (an @m32_23 @m32_29u))) (an (an (an @m32_31 @m32_35) (an @m32_40 @m32_45)) (an (an @m32_46 @m32_52) (an @m32_60 @m32_63)))
def k32_1:=an (an @m32_71 (an @m32_77 @m32_80)) (an (an @m32_81 @m32_87) (an @m32_90 @m32_100))
def k63_0:=an (an (an (an @m63_0 @m63_9u) (an @m63_11 @m63_16)) (an (an @m63_23 @m63_26) (an @m63_31 @m63_42))) (an (an (an @m63_44 @m63_45) (an @m63_46 @m63_49)) (an (an @m63_54 @m63_65) (an @m63_67 @m63_68)))
def k63_1:=an (an (an @m63_69 (an @m63_72 @m63_77)) (an (an @m63_88 @m63_89) (an @m63_90 @m63_91))) (an (an (an @m63_94 @m63_99) (an @m63_114 @m63_115)) (an (an @m63_118 @m63_124) (an @m63_139 @m63_140)))
def k51_0:=an (an (an @m51_0 (an @m51_10 @m51_16u)) (an @m51_17 (an @m51_22 @m51_27))) (an (an @m51_32 (an @m51_38 @m51_39)) (an @m51_42 (an @m51_47 @m51_55)))
def k51_1:=an @m51_64 (an @m51_72 @m51_78)
def k51_2:=an (an (an @m51_87 @m51_93) (an @m51_97 (an @m51_100g @m51_102))) (an (an @m51_109 @m51_124) (an @m51_127 (an @m51_138 @m51_144)))
def k53_0:=an (an @m53_0 (an @m53_15 @m53_25)) (an @m53_35 (an @m53_45 @m53_55))
def k53_1:=an (an @m53_62 @m53_77) (an @m53_78 @m53_84)
def k52_0:=an (an (an @m52_0 (an @m52_11 @m52_21)) (an (an @m52_24 @m52_34) (an @m52_35 @m52_36))) (an (an (an @m52_46 @m52_53) (an @m52_66 @m52_78)) (an (an @m52_81 @m52_82) (an @m52_83 @m52_84)))
def k50_0:=an (an (an (an @m50_0 @m50_4) (an @m50_7 @m50_10)) (an (an @m50_11 @m50_12) (an @m50_23 @m50_24))) (an (an (an @m50_25 @m50_26) (an @m50_29 @m50_32u)) (an (an @m50_33 @m50_40) (an @m50_48 @m50_53)))
def k50_1:=an (an (an (an @m50_54 @m50_55) (an @m50_59 @m50_60)) (an (an @m50_61 @m50_64) (an @m50_67 @m50_68))) (an (an (an @m50_71 @m50_74) (an @m50_79 @m50_80)) (an (an @m50_81 @m50_87) (an @m50_90 @m50_95)))
def k50_2:=an @m50_96 (an @m50_97 @m50_98)
def k31_0:=an (an (an (an @m31_0 @m31_15) (an @m31_20 @m31_23)) (an (an @m31_25 @m31_28u) (an @m31_29 @m31_33))) (an (an (an @m31_36 @m31_39u) (an @m31_40 @m31_44)) (an (an @m31_45 @m31_46) (an @m31_48 @m31_51)))
def k31_1:=an (an @m31_61 @m31_68) (an @m31_69 (an @m31_70 @m31_71))
def k30_0:=an (an (an @m30_7 @m30_14) (an @m30_15 (an @m30_18g @m30_19))) (an (an @m30_23 @m30_24) (an @m30_25 (an @m30_31 @m30_32)))
def k29_0:=an (an (an (an @m29_0 @m29_5) (an @m29_6 @m29_7)) (an (an @m29_14 @m29_20) (an @m29_21u @m29_22))) (an (an (an @m29_27 @m29_32) (an @m29_41 @m29_43)) (an (an @m29_46i @m29_47) (an @m29_52 @m29_53)))
def k40_0:=an (an (an @m40_0 (an @m40_3 @m40_6)) (an (an @m40_9 @m40_14) (an @m40_15 @m40_16))) (an (an (an @m40_19 @m40_22u) (an @m40_23 @m40_31)) (an (an @m40_38 @m40_39) (an @m40_40 @m40_41)))
def k41_0:=an (an (an @m41_0 (an @m41_4 @m41_7)) (an (an @m41_10 @m41_11) (an @m41_12 @m41_18))) (an (an (an @m41_21 @m41_22) (an @m41_23 @m41_27)) (an (an @m41_34 @m41_37) (an @m41_41 @m41_42)))
def k66_0:=an (an @m66_0 (an @m66_2 @m66_3u)) (an (an @m66_4 @m66_8) (an @m66_14 @m66_15))
def k65_0:=an (an (an @m65_0 (an @m65_1 @m65_2)) (an @m65_2p (an @m65_3 @m65_6))) (an (an @m65_7 (an @m65_8 @m65_8p)) (an @m65_9 (an @m65_12 @m65_13)))
def k56_0:=an (an @m56_0 @m56_5) (an @m56_10 @m56_15)
def k34_0:=an (an (an @m34_0 @m34_5) (an @m34_8 (an @m34_11 @m34_17))) (an (an @m34_18 @m34_24) (an @m34_28 (an @m34_29 @m34_30)))
def k54_0:=an (an (an (an @m54_0 @m54_4) (an @m54_12 @m54_13)) (an (an @m54_14 @m54_28) (an @m54_34 @m54_35))) (an (an (an @m54_40 @m54_46) (an @m54_47 @m54_52)) (an (an @m54_58 @m54_59) (an @m54_64 @m54_70)))
def k54_1:=an (an @m54_71 (an @m54_77 @m54_83)) (an @m54_84 (an @m54_87 @m54_90))
def k55_0:=an (an (an @m55_0 @m55_5) (an @m55_11 (an @m55_12 @m55_13))) (an (an @m55_24 @m55_27) (an @m55_28 (an @m55_29 @m55_39)))
def k49_0:=an (an @m49_0 (an @m49_5 @m49_8)) (an (an @m49_11 @m49_12) (an @m49_13 @m49_19))
def k38_0:=an (an (an (an @m38_0 @m38_4) (an @m38_11 @m38_15)) (an (an @m38_16 @m38_17) (an @m38_22 @m38_29))) (an (an (an @m38_33 @m38_34) (an @m38_35 @m38_40)) (an (an @m38_44 @m38_45) (an @m38_50 @m38_54)))
def k38_1:=an (an (an @m38_55 @m38_60) (an @m38_64 @m38_65)) (an (an @m38_70 @m38_74) (an @m38_75 (an @m38_77 @m38_80)))
def k39_0:=an (an (an (an @m39_0 @m39_6) (an @m39_10 @m39_11)) (an (an @m39_17 @m39_21) (an @m39_22 @m39_28))) (an (an (an @m39_32 @m39_33) (an @m39_39 @m39_43)) (an (an @m39_44 @m39_50) (an @m39_54 @m39_55)))
def k39_1:=an (an @m39_61 @m39_65) (an @m39_66 @m39_67)
def k33_0:=an (an (an (an @m33_0 @m33_4) (an @m33_7 @m33_10)) (an (an @m33_11 @m33_12) (an @m33_18 @m33_19))) (an (an (an @m33_22 @m33_26) (an @m33_27u @m33_28)) (an (an @m33_32 @m33_38) (an @m33_39 @m33_44)))
def k33_1:=an (an (an (an @m33_48 @m33_54) (an @m33_57 @m33_58)) (an (an @m33_59 @m33_64) (an @m33_68 @m33_74))) (an (an (an @m33_77 @m33_78) (an @m33_79 @m33_84)) (an (an @m33_90 @m33_91) (an @m33_96 @m33_102)))
def k33_2:=an (an @m33_105 @m33_109) (an @m33_115 (an @m33_116 @m33_117))
def k67_13:=an (an (an (an @m67_566 @m67_573) (an @m67_574 @m67_576)) (an (an @m67_579 @m67_580) (an @m67_581 @m67_584))) (an (an (an @m67_587 @m67_588) (an @m67_589 @m67_598)) (an (an @m67_601 @m67_602) (an @m67_603 @m67_606)))
def k67_6:=an (an (an @m67_284 @m67_287g) (an @m67_289 @m67_295)) (an (an @m67_298 @m67_299g) (an @m67_301 @m67_302g))
def k67_28:=an (an @m67_1142 (an @m67_1143 @m67_1145)) (an @m67_1148 (an @m67_1151 @m67_1152g))
def k67_37:=an (an @m67_1428 (an @m67_1429 @m67_1431)) (an @m67_1434 (an @m67_1437 @m67_1438g))
def k67_22:=an (an (an (an @m67_937 @m67_940) (an @m67_941 @m67_942)) (an (an @m67_945 @m67_948) (an @m67_949 @m67_951))) (an (an (an @m67_954 @m67_957) (an @m67_958 @m67_960)) (an (an @m67_963 @m67_964) (an @m67_966 @m67_969)))
def k67_20:=an @m67_883g (an @m67_885 @m67_886g)
def k0_6:=an (an (an @m0_303 @m0_304) (an @m0_307 @m0_308)) (an (an @m0_309 @m0_312) (an @m0_313 (an @m0_314 @m0_317)))
def k0_0:=an (an (an (an @m0_0 @m0_1) (an @m0_4 @m0_5)) (an (an @m0_12 @m0_13) (an @m0_20 @m0_21))) (an (an (an @m0_28 @m0_29) (an @m0_36 @m0_37)) (an (an @m0_44 @m0_45) (an @m0_52 @m0_53)))
def k0_1:=an (an (an (an @m0_60 @m0_61) (an @m0_67 @m0_68)) (an (an @m0_74 @m0_75) (an @m0_81 @m0_82))) (an (an (an @m0_88 @m0_89) (an @m0_95 @m0_96)) (an (an @m0_102 @m0_103) (an @m0_111 @m0_112)))
def k0_2:=an (an (an (an @m0_120 @m0_121) (an @m0_128 @m0_129)) (an (an @m0_136 @m0_137) (an @m0_144 @m0_145))) (an (an (an @m0_152 @m0_153) (an @m0_159 @m0_160)) (an (an @m0_166 @m0_167) (an @m0_174 @m0_175)))
def k0_3:=an (an (an (an @m0_182 @m0_183) (an @m0_190 @m0_191)) (an (an @m0_198 @m0_199) (an @m0_206 @m0_207))) (an (an (an @m0_214 @m0_215) (an @m0_222 @m0_223)) (an (an @m0_230 @m0_231) (an @m0_238 @m0_239)))
def k0_4:=an (an (an (an @m0_246 @m0_247) (an @m0_253 @m0_254u)) (an (an @m0_255 @m0_256) (an @m0_257 @m0_260))) (an (an (an @m0_261i @m0_262) (an @m0_263 @m0_265)) (an (an @m0_268 @m0_270i) (an @m0_271 @m0_272)))
def k0_5:=an (an (an (an @m0_273 @m0_276) (an @m0_277u @m0_279)) (an (an @m0_281 @m0_284) (an @m0_285i @m0_287))) (an (an (an @m0_289 @m0_290) (an @m0_293 @m0_294i)) (an (an @m0_296 @m0_297) (an @m0_299 @m0_302)))
def k67_0:=an (an (an (an @m67_0 @m67_3) (an @m67_4 @m67_5)) (an (an @m67_6 @m67_9) (an @m67_10 @m67_11))) (an (an (an @m67_14 @m67_17u) (an @m67_18 @m67_21)) (an (an @m67_22 @m67_24) (an @m67_27u @m67_28)))
def k67_1:=an (an (an (an @m67_31 @m67_32) (an @m67_32p @m67_33)) (an (an @m67_36 @m67_37) (an @m67_41 @m67_44))) (an (an (an @m67_46 @m67_49g) (an @m67_51 @m67_52)) (an (an @m67_56 @m67_59g) (an @m67_61 @m67_66)))
def k67_2:=an (an (an (an @m67_70 @m67_73g) (an @m67_75 @m67_76)) (an (an @m67_80 @m67_83g) (an @m67_85 @m67_91))) (an (an (an @m67_97 @m67_101) (an @m67_104 @m67_105)) (an (an @m67_106 @m67_109) (an @m67_116 @m67_120)))
def k67_3:=an (an (an (an @m67_123 @m67_126) (an @m67_130 @m67_133g)) (an (an @m67_135 @m67_141) (an @m67_144g @m67_146))) (an (an (an @m67_152 @m67_155g) (an @m67_157 @m67_158)) (an (an @m67_166 @m67_169) (an @m67_170 @m67_171)))
def k67_4:=an (an (an (an @m67_179 @m67_182) (an @m67_183 @m67_186)) (an (an @m67_192 @m67_193) (an @m67_197 @m67_200g))) (an (an (an @m67_202 @m67_213) (an @m67_218 @m67_222)) (an (an @m67_225 @m67_227) (an @m67_228g @m67_230)))
def k67_5:=an (an (an (an @m67_237 @m67_238) (an @m67_244 @m67_247)) (an (an @m67_249 @m67_252) (an @m67_253 @m67_256))) (an (an (an @m67_257 @m67_263) (an @m67_266 @m67_268)) (an (an @m67_271 @m67_272) (an @m67_275 @m67_281)))
def k67_7:=an (an (an (an @m67_311 @m67_316) (an @m67_317 @m67_319)) (an (an @m67_322 @m67_323) (an @m67_324 @m67_325))) (an (an (an @m67_329 @m67_332) (an @m67_338 @m67_342)) (an (an @m67_343 @m67_346) (an @m67_347g @m67_349)))
def k67_8:=an (an (an (an @m67_359 @m67_364) (an @m67_365 @m67_367)) (an (an @m67_368 @m67_372) (an @m67_375 @m67_377))) (an (an (an @m67_380 @m67_381) (an @m67_382 @m67_385)) (an (an @m67_386 @m67_387) (an @m67_391 @m67_394g)))
def k67_9:=an (an (an (an @m67_396 @m67_402) (an @m67_405g @m67_407)) (an (an @m67_411 @m67_414g) (an @m67_416 @m67_421))) (an (an (an @m67_422 @m67_429) (an @m67_432 @m67_433)) (an (an @m67_434 @m67_437) (an @m67_438 @m67_441)))
def k67_10:=an (an (an (an @m67_447 @m67_448) (an @m67_451 @m67_454)) (an (an @m67_455 @m67_458) (an @m67_464 @m67_465))) (an (an (an @m67_468 @m67_471) (an @m67_472 @m67_473)) (an (an @m67_480 @m67_483) (an @m67_484 @m67_485)))
def k67_11:=an (an (an (an @m67_488 @m67_489) (an @m67_492 @m67_498)) (an (an @m67_499 @m67_502) (an @m67_505 @m67_506))) (an (an (an @m67_507 @m67_510) (an @m67_513 @m67_514)) (an (an @m67_517 @m67_523) (an @m67_524 @m67_526)))
def k67_12:=an (an (an (an @m67_529 @m67_530) (an @m67_531 @m67_534)) (an (an @m67_537 @m67_538) (an @m67_541 @m67_547))) (an (an (an @m67_548 @m67_551) (an @m67_554 @m67_555)) (an (an @m67_556 @m67_559) (an @m67_562 @m67_563)))
def k67_14:=an (an (an (an @m67_607 @m67_608) (an @m67_615 @m67_618)) (an (an @m67_619 @m67_620) (an @m67_623 @m67_624))) (an (an (an @m67_625 @m67_627) (an @m67_630 @m67_631)) (an (an @m67_634 @m67_635) (an @m67_640 @m67_643)))
def k67_15:=an (an (an (an @m67_644 @m67_650) (an @m67_656 @m67_657)) (an (an @m67_659 @m67_662) (an @m67_663 @m67_666))) (an (an (an @m67_672 @m67_673) (an @m67_676 @m67_679)) (an (an @m67_685 @m67_688) (an @m67_694 @m67_697)))
def k67_16:=an (an (an (an @m67_700 @m67_701) (an @m67_704 @m67_711)) (an (an @m67_714 @m67_717g) (an @m67_719 @m67_724))) (an (an (an @m67_725 @m67_730) (an @m67_733 @m67_736)) (an (an @m67_737 @m67_740) (an @m67_746 @m67_747)))
def k67_17:=an (an (an (an @m67_750 @m67_753) (an @m67_759 @m67_760)) (an (an @m67_768 @m67_771) (an @m67_774 @m67_775))) (an (an (an @m67_778 @m67_779) (an @m67_784 @m67_787)) (an (an @m67_788 @m67_790) (an @m67_793 @m67_798)))
def k67_18:=an (an (an (an @m67_801 @m67_804) (an @m67_805 @m67_808)) (an (an @m67_815 @m67_816) (an @m67_820 @m67_823))) (an (an (an @m67_824 @m67_827) (an @m67_828 @m67_831)) (an (an @m67_839 @m67_844) (an @m67_847g @m67_849)))
def k67_19:=an (an (an (an @m67_850 @m67_853) (an @m67_856 @m67_857)) (an (an @m67_860 @m67_861) (an @m67_863 @m67_864))) (an (an (an @m67_867 @m67_870) (an @m67_873 @m67_874)) (an (an @m67_875 @m67_877) (an @m67_880g @m67_882)))
def k67_21:=an (an (an (an @m67_894 @m67_895) (an @m67_898 @m67_901)) (an (an @m67_902 @m67_905) (an @m67_906 @m67_909))) (an (an (an @m67_912 @m67_914) (an @m67_917 @m67_921)) (an (an @m67_927 @m67_932) (an @m67_933 @m67_934)))
def k67_23:=an (an (an (an @m67_972 @m67_973) (an @m67_974 @m67_977)) (an (an @m67_978 @m67_981) (an @m67_982 @m67_985))) (an (an (an @m67_988i @m67_990) (an @m67_991 @m67_994)) (an (an @m67_997g @m67_999) (an @m67_1000 @m67_1001)))
def k67_24:=an (an (an (an @m67_1004g @m67_1006) (an @m67_1007g @m67_1009)) (an (an @m67_1010g @m67_1012) (an @m67_1013g @m67_1015))) (an (an (an @m67_1016g @m67_1018) (an @m67_1019g @m67_1021)) (an (an @m67_1022g @m67_1024) (an @m67_1030 @m67_1031)))
def k67_25:=an (an (an (an @m67_1034 @m67_1037i) (an @m67_1039 @m67_1040)) (an (an @m67_1041 @m67_1044i) (an @m67_1046 @m67_1052))) (an (an (an @m67_1053 @m67_1056) (an @m67_1059i @m67_1061)) (an (an @m67_1062 @m67_1063) (an @m67_1066i @m67_1068)))
def k67_26:=an (an (an (an @m67_1074 @m67_1075) (an @m67_1078 @m67_1081i)) (an (an @m67_1083 @m67_1084) (an @m67_1085 @m67_1088i))) (an (an (an @m67_1090 @m67_1091) (an @m67_1094 @m67_1097g)) (an (an @m67_1099 @m67_1100) (an @m67_1102 @m67_1105g)))
def k67_27:=an (an (an (an @m67_1107 @m67_1108) (an @m67_1111 @m67_1114g)) (an (an @m67_1116 @m67_1117) (an @m67_1119 @m67_1122))) (an (an (an @m67_1123 @m67_1126) (an @m67_1127 @m67_1128)) (an (an @m67_1130 @m67_1133) (an @m67_1134 @m67_1135)))
def k67_29:=an (an (an @m67_1161 @m67_1167) (an @m67_1168 (an @m67_1172 @m67_1175))) (an (an @m67_1176 @m67_1177) (an @m67_1179 (an @m67_1185 @m67_1191)))
def k67_30:=an (an (an @m67_1201 @m67_1202) (an @m67_1204 @m67_1205)) (an (an @m67_1207 @m67_1210) (an @m67_1213 (an @m67_1214 @m67_1220)))
def k67_31:=an (an (an (an @m67_1230 @m67_1231) (an @m67_1233 @m67_1234)) (an (an @m67_1236 @m67_1239) (an @m67_1242 @m67_1243))) (an (an (an @m67_1249 @m67_1250) (an @m67_1254 @m67_1257)) (an (an @m67_1258 @m67_1263) (an @m67_1268 @m67_1274)))
def k67_32:=an (an (an (an @m67_1278 @m67_1279i) (an @m67_1281 @m67_1286)) (an (an @m67_1287 @m67_1288) (an @m67_1291 @m67_1294))) (an (an (an @m67_1296g @m67_1298) (an @m67_1299 @m67_1300)) (an (an @m67_1303g @m67_1305) (an @m67_1306 @m67_1309)))
def k67_33:=an (an @m67_1312 (an @m67_1316 @m67_1319)) (an @m67_1320 (an @m67_1321 @m67_1322g))
def k67_34:=an (an (an @m67_1331 @m67_1332) (an @m67_1334 (an @m67_1337 @m67_1338))) (an (an @m67_1340 (an @m67_1343 @m67_1346)) (an @m67_1347 (an @m67_1348 @m67_1354)))
def k67_35:=an (an (an (an @m67_1364 @m67_1365) (an @m67_1367 @m67_1370)) (an (an @m67_1371 @m67_1373) (an @m67_1376 @m67_1379))) (an (an (an @m67_1380 @m67_1381) (an @m67_1387 @m67_1388)) (an (an @m67_1389 @m67_1392) (an @m67_1393 @m67_1394)))
def k67_36:=an (an (an (an @m67_1397 @m67_1400) (an @m67_1401 @m67_1402)) (an (an @m67_1403 @m67_1405) (an @m67_1408 @m67_1409))) (an (an (an @m67_1412 @m67_1413) (an @m67_1414 @m67_1416)) (an (an @m67_1419 @m67_1420) (an @m67_1421 @m67_1423)))
def k67_38:=an (an (an (an @m67_1447 @m67_1453) (an @m67_1454 @m67_1458)) (an (an @m67_1461 @m67_1462) (an @m67_1463 @m67_1465))) (an (an (an @m67_1471 @m67_1477) (an @m67_1482 @m67_1488)) (an (an @m67_1489 @m67_1490) (an @m67_1493 @m67_1495)))
def k67_39:=an (an (an (an @m67_1498 @m67_1499) (an @m67_1500 @m67_1501)) (an (an @m67_1503 @m67_1506) (an @m67_1508 @m67_1511))) (an (an (an @m67_1519 @m67_1520) (an @m67_1521 @m67_1526)) (an (an @m67_1533 @m67_1534) (an @m67_1536 @m67_1539)))
def k67_40:=an (an (an (an @m67_1541 @m67_1544) (an @m67_1552 @m67_1553)) (an (an @m67_1554 @m67_1555) (an @m67_1557 @m67_1560))) (an (an (an @m67_1564 @m67_1567) (an @m67_1568 @m67_1569)) (an (an @m67_1570 @m67_1572) (an @m67_1575 @m67_1576)))
def k67_41:=an (an (an (an @m67_1577i @m67_1579) (an @m67_1584 @m67_1585)) (an (an @m67_1588 @m67_1591) (an @m67_1593 @m67_1596))) (an (an (an @m67_1597 @m67_1600) (an @m67_1603 @m67_1605)) (an (an @m67_1608 @m67_1609) (an @m67_1610 @m67_1611)))
def k67_42:=an (an (an (an @m67_1614 @m67_1617) (an @m67_1621 @m67_1624)) (an (an @m67_1625 @m67_1629) (an @m67_1632 @m67_1636))) (an (an (an @m67_1639 @m67_1640) (an @m67_1641 @m67_1647)) (an (an @m67_1648 @m67_1651) (an @m67_1654 @m67_1656)))
def k67_43:=an (an (an (an @m67_1659 @m67_1660) (an @m67_1661 @m67_1667)) (an (an @m67_1668 @m67_1671) (an @m67_1674 @m67_1676))) (an (an (an @m67_1679 @m67_1680) (an @m67_1681 @m67_1687)) (an (an @m67_1688 @m67_1692) (an @m67_1695 @m67_1697)))
def k67_44:=an (an (an (an @m67_1700 @m67_1701) (an @m67_1702 @m67_1708)) (an (an @m67_1713 @m67_1717) (an @m67_1718 @m67_1724))) (an (an (an @m67_1729 @m67_1733) (an @m67_1734 @m67_1735)) (an (an @m67_1741 @m67_1746) (an @m67_1750 @m67_1751)))
def k67_45:=an (an (an (an @m67_1752g @m67_1754) (an @m67_1755 @m67_1758)) (an (an @m67_1761 @m67_1763) (an @m67_1766 @m67_1767))) (an (an (an @m67_1768 @m67_1773) (an @m67_1779 @m67_1780)) (an (an @m67_1781 @m67_1784) (an @m67_1785 @m67_1788)))
def k67_46:=an (an @m67_1789 (an @m67_1790 @m67_1797)) (an (an @m67_1798 @m67_1799) (an @m67_1802 @m67_1803))
def ks:=And.intro nb0 (And.intro nb1 (And.intro @ou_a (And.intro @Option.toList_some.{0} (And.intro @Option.toList_none.{0} (And.intro @List.nil_append.{0} (And.intro @List.cons_append.{0} (And.intro okS_i okS_u)))))))
def nI (n:Nat):Int32:=Nat.toInt32 n
theorem nI_int {n:Nat} (h:n < 2147483648):(nI n).toInt=n:=len_toInt h
theorem nI_cl {n:Nat} (h:n < 2147483648):(nI n).toNatClampNeg=n:=by rw [toNat_eq,nI_int h]; rfl
theorem nI_add (a c:Nat):nI a+nI c=nI (a+c):=(Int32.ofNat_add a c).symm
theorem nI_1 (a:Nat):nI a+1=nI (a+1):=nI_add a 1
theorem nI_sub {a c:Nat} (h:c≤a):nI a - nI c=nI (a - c):=by
  have e:nI a=nI (a - c)+nI c:=by rw [nI_add,Nat.sub_add_cancel h]
  rw [e,Int32.add_sub_cancel]
theorem nI_32 (v:Nat):nI v * 32=nI (v * 32):=(Int32.ofNat_mul v 32).symm
theorem nI_lt {a c:Nat} (ha:a < 2147483648) (hc:c < 2147483648):nI a < nI c ↔ a < c:=by
  rw [lt_i,nI_int ha,nI_int hc]
  omega
theorem nI_nn {a:Nat} (ha:a < 2147483648):¬ nI a < 0:=by
  rw [nn_i,nI_int ha]
  omega
theorem nI_inj {a c:Nat} (ha:a < 2147483648) (hc:c < 2147483648):nI a=nI c ↔ a=c:=by
  constructor
  · intro h
    have:=congrArg Int32.toInt h
    rw [nI_int ha,nI_int hc] at this
    omega
  · intro h; rw [h]
theorem nI_ne {a c:Nat} (ha:a < 2147483648) (hc:c < 2147483648) (h:a ≠ c):¬ nI a=nI c:=fun e => h ((nI_inj ha hc).mp e)
theorem nI_in {l:List Int32}{i:Nat} (h:i < l.length) (hl:l.length≤4096):inB (nI i) l:=by
  rw [inB_iff,nI_int (by omega)]
  omega
theorem lT {a c:Nat} (h:a < c) (hc:c < 2147483648):(nI a < nI c)=True:=eq_true ((nI_lt (by omega) hc).mpr h)
theorem lF {a c:Nat} (h:c≤a) (ha:a < 2147483648):(nI a < nI c)=False:=eq_false (fun q => by rw [nI_lt ha (by omega)] at q; omega)
theorem cf_set {l:List Int32}{i j:Nat}{x:Int32} (hj:j < l.length) (hl:l.length≤4096) (hi:i < 4096):getA (setA l (nI j) x) (nI i)=if i=j then x else getA l (nI i):=by
  rw [getA_set2,nI_cl (by omega),nI_cl (by omega)]
  simp [hj]
def CF (l:List Int32) (f:Nat→Int32) (k:Nat):Prop:=∀ i,i < k→getA l (nI i)=f i
def CN (l:List Int32) (f:Nat→Nat) (k:Nat):Prop:=∀ i,i < k→getA l (nI i)=nI (f i)
section Cells
variable {l:List Int32}{f:Nat→Int32}{g:Nat→Nat}{k j w:Nat}{x:Int32}
theorem CF_set (h:CF l f k) (hj:j < l.length) (hl:l.length≤4096) (hk:k≤4096):CF (setA l (nI j) x) (ou f j x) k:=by
  intro i hi
  rw [cf_set hj hl (by omega),ou_a]
  split
  · rfl
  · exact h i hi
theorem CF_push (h:CF l f k) (hk:k < l.length) (hl:l.length≤4096):CF (setA l (nI k) x) (ou f k x) (k+1):=by
  intro i hi
  rw [cf_set hk hl (by omega),ou_a]
  split
  · rfl
  · exact h i (by omega)
theorem CN_set (h:CN l g k) (hj:j < l.length) (hl:l.length≤4096) (hk:k≤4096):CN (setA l (nI j) (nI w)) (ou g j w) k:=by
  intro i hi
  rw [cf_set hj hl (by omega),ou_a]
  split
  · rfl
  · exact h i hi
theorem CN_push (h:CN l g k) (hk:k < l.length) (hl:l.length≤4096):CN (setA l (nI k) (nI w)) (ou g k w) (k+1):=by
  intro i hi
  rw [cf_set hk hl (by omega),ou_a]
  split
  · rfl
  · exact h i (by omega)
end Cells
theorem okS_n (n:Nat):okS (.val (.int (nI n))):=okS_i _
def LN (A:Nat→List Int32):Prop:=∀ i,(A i).length=(A0 i).length
theorem LN_ou {A:Nat→List Int32}{j:Nat}{l:List Int32} (h:LN A) (hl:l.length=(A0 j).length):LN (ou A j l):=len_ou h hl
theorem LN_set {A:Nat→List Int32}{j:Nat}{x v:Int32} (h:LN A):LN (ou A j (setA (A j) x v)):=LN_ou h (by rw [setA_len]; exact h _)
-- okS
theorem ln0 {A:Nat→List Int32} (h:LN A):(A 0).length=8:=(h 0).trans A0l_0
theorem in0 {A:Nat→List Int32}{i:Nat} (h:LN A) (hi:i < 8):inB (nI i) (A 0):=nI_in (by rw [ln0 h]; exact hi) (by rw [ln0 h]; decide)
theorem ln1 {A:Nat→List Int32} (h:LN A):(A 1).length=32:=(h 1).trans A0l_1
theorem in1 {A:Nat→List Int32}{i:Nat} (h:LN A) (hi:i < 32):inB (nI i) (A 1):=nI_in (by rw [ln1 h]; exact hi) (by rw [ln1 h]; decide)
theorem ln2 {A:Nat→List Int32} (h:LN A):(A 2).length=32:=(h 2).trans A0l_2
theorem in2 {A:Nat→List Int32}{i:Nat} (h:LN A) (hi:i < 32):inB (nI i) (A 2):=nI_in (by rw [ln2 h]; exact hi) (by rw [ln2 h]; decide)
theorem ln3 {A:Nat→List Int32} (h:LN A):(A 3).length=32:=(h 3).trans A0l_3
theorem in3 {A:Nat→List Int32}{i:Nat} (h:LN A) (hi:i < 32):inB (nI i) (A 3):=nI_in (by rw [ln3 h]; exact hi) (by rw [ln3 h]; decide)
theorem ln4 {A:Nat→List Int32} (h:LN A):(A 4).length=32:=(h 4).trans A0l_4
theorem in4 {A:Nat→List Int32}{i:Nat} (h:LN A) (hi:i < 32):inB (nI i) (A 4):=nI_in (by rw [ln4 h]; exact hi) (by rw [ln4 h]; decide)
theorem ln5 {A:Nat→List Int32} (h:LN A):(A 5).length=32:=(h 5).trans A0l_5
theorem in5 {A:Nat→List Int32}{i:Nat} (h:LN A) (hi:i < 32):inB (nI i) (A 5):=nI_in (by rw [ln5 h]; exact hi) (by rw [ln5 h]; decide)
theorem ln6 {A:Nat→List Int32} (h:LN A):(A 6).length=32:=(h 6).trans A0l_6
theorem in6 {A:Nat→List Int32}{i:Nat} (h:LN A) (hi:i < 32):inB (nI i) (A 6):=nI_in (by rw [ln6 h]; exact hi) (by rw [ln6 h]; decide)
theorem ln7 {A:Nat→List Int32} (h:LN A):(A 7).length=4:=(h 7).trans A0l_7
theorem in7 {A:Nat→List Int32}{i:Nat} (h:LN A) (hi:i < 4):inB (nI i) (A 7):=nI_in (by rw [ln7 h]; exact hi) (by rw [ln7 h]; decide)
theorem ln8 {A:Nat→List Int32} (h:LN A):(A 8).length=4:=(h 8).trans A0l_8
theorem in8 {A:Nat→List Int32}{i:Nat} (h:LN A) (hi:i < 4):inB (nI i) (A 8):=nI_in (by rw [ln8 h]; exact hi) (by rw [ln8 h]; decide)
theorem ln9 {A:Nat→List Int32} (h:LN A):(A 9).length=4:=(h 9).trans A0l_9
theorem in9 {A:Nat→List Int32}{i:Nat} (h:LN A) (hi:i < 4):inB (nI i) (A 9):=nI_in (by rw [ln9 h]; exact hi) (by rw [ln9 h]; decide)
theorem ln10 {A:Nat→List Int32} (h:LN A):(A 10).length=4:=(h 10).trans A0l_10
theorem in10 {A:Nat→List Int32}{i:Nat} (h:LN A) (hi:i < 4):inB (nI i) (A 10):=nI_in (by rw [ln10 h]; exact hi) (by rw [ln10 h]; decide)
theorem ln11 {A:Nat→List Int32} (h:LN A):(A 11).length=4:=(h 11).trans A0l_11
theorem in11 {A:Nat→List Int32}{i:Nat} (h:LN A) (hi:i < 4):inB (nI i) (A 11):=nI_in (by rw [ln11 h]; exact hi) (by rw [ln11 h]; decide)
theorem ln12 {A:Nat→List Int32} (h:LN A):(A 12).length=4:=(h 12).trans A0l_12
theorem in12 {A:Nat→List Int32}{i:Nat} (h:LN A) (hi:i < 4):inB (nI i) (A 12):=nI_in (by rw [ln12 h]; exact hi) (by rw [ln12 h]; decide)
theorem ln13 {A:Nat→List Int32} (h:LN A):(A 13).length=256:=(h 13).trans A0l_13
theorem in13 {A:Nat→List Int32}{i:Nat} (h:LN A) (hi:i < 256):inB (nI i) (A 13):=nI_in (by rw [ln13 h]; exact hi) (by rw [ln13 h]; decide)
theorem ln14 {A:Nat→List Int32} (h:LN A):(A 14).length=256:=(h 14).trans A0l_14
theorem in14 {A:Nat→List Int32}{i:Nat} (h:LN A) (hi:i < 256):inB (nI i) (A 14):=nI_in (by rw [ln14 h]; exact hi) (by rw [ln14 h]; decide)
theorem ln15 {A:Nat→List Int32} (h:LN A):(A 15).length=16:=(h 15).trans A0l_15
theorem in15 {A:Nat→List Int32}{i:Nat} (h:LN A) (hi:i < 16):inB (nI i) (A 15):=nI_in (by rw [ln15 h]; exact hi) (by rw [ln15 h]; decide)
theorem ln16 {A:Nat→List Int32} (h:LN A):(A 16).length=16:=(h 16).trans A0l_16
theorem in16 {A:Nat→List Int32}{i:Nat} (h:LN A) (hi:i < 16):inB (nI i) (A 16):=nI_in (by rw [ln16 h]; exact hi) (by rw [ln16 h]; decide)
theorem ln17 {A:Nat→List Int32} (h:LN A):(A 17).length=64:=(h 17).trans A0l_17
theorem in17 {A:Nat→List Int32}{i:Nat} (h:LN A) (hi:i < 64):inB (nI i) (A 17):=nI_in (by rw [ln17 h]; exact hi) (by rw [ln17 h]; decide)
theorem ln18 {A:Nat→List Int32} (h:LN A):(A 18).length=64:=(h 18).trans A0l_18
theorem in18 {A:Nat→List Int32}{i:Nat} (h:LN A) (hi:i < 64):inB (nI i) (A 18):=nI_in (by rw [ln18 h]; exact hi) (by rw [ln18 h]; decide)
theorem ln19 {A:Nat→List Int32} (h:LN A):(A 19).length=4:=(h 19).trans A0l_19
theorem in19 {A:Nat→List Int32}{i:Nat} (h:LN A) (hi:i < 4):inB (nI i) (A 19):=nI_in (by rw [ln19 h]; exact hi) (by rw [ln19 h]; decide)
theorem ln20 {A:Nat→List Int32} (h:LN A):(A 20).length=4:=(h 20).trans A0l_20
theorem in20 {A:Nat→List Int32}{i:Nat} (h:LN A) (hi:i < 4):inB (nI i) (A 20):=nI_in (by rw [ln20 h]; exact hi) (by rw [ln20 h]; decide)
theorem ln21 {A:Nat→List Int32} (h:LN A):(A 21).length=32:=(h 21).trans A0l_21
theorem in21 {A:Nat→List Int32}{i:Nat} (h:LN A) (hi:i < 32):inB (nI i) (A 21):=nI_in (by rw [ln21 h]; exact hi) (by rw [ln21 h]; decide)
theorem ln22 {A:Nat→List Int32} (h:LN A):(A 22).length=32:=(h 22).trans A0l_22
theorem in22 {A:Nat→List Int32}{i:Nat} (h:LN A) (hi:i < 32):inB (nI i) (A 22):=nI_in (by rw [ln22 h]; exact hi) (by rw [ln22 h]; decide)
theorem ln23 {A:Nat→List Int32} (h:LN A):(A 23).length=32:=(h 23).trans A0l_23
theorem in23 {A:Nat→List Int32}{i:Nat} (h:LN A) (hi:i < 32):inB (nI i) (A 23):=nI_in (by rw [ln23 h]; exact hi) (by rw [ln23 h]; decide)
theorem ln24 {A:Nat→List Int32} (h:LN A):(A 24).length=40:=(h 24).trans A0l_24
theorem in24 {A:Nat→List Int32}{i:Nat} (h:LN A) (hi:i < 40):inB (nI i) (A 24):=nI_in (by rw [ln24 h]; exact hi) (by rw [ln24 h]; decide)
theorem ln25 {A:Nat→List Int32} (h:LN A):(A 25).length=8:=(h 25).trans A0l_25
theorem in25 {A:Nat→List Int32}{i:Nat} (h:LN A) (hi:i < 8):inB (nI i) (A 25):=nI_in (by rw [ln25 h]; exact hi) (by rw [ln25 h]; decide)
theorem ln26 {A:Nat→List Int32} (h:LN A):(A 26).length=8:=(h 26).trans A0l_26
theorem in26 {A:Nat→List Int32}{i:Nat} (h:LN A) (hi:i < 8):inB (nI i) (A 26):=nI_in (by rw [ln26 h]; exact hi) (by rw [ln26 h]; decide)
theorem ln27 {A:Nat→List Int32} (h:LN A):(A 27).length=8:=(h 27).trans A0l_27
theorem in27 {A:Nat→List Int32}{i:Nat} (h:LN A) (hi:i < 8):inB (nI i) (A 27):=nI_in (by rw [ln27 h]; exact hi) (by rw [ln27 h]; decide)
theorem ln28 {A:Nat→List Int32} (h:LN A):(A 28).length=8:=(h 28).trans A0l_28
theorem in28 {A:Nat→List Int32}{i:Nat} (h:LN A) (hi:i < 8):inB (nI i) (A 28):=nI_in (by rw [ln28 h]; exact hi) (by rw [ln28 h]; decide)
theorem ln29 {A:Nat→List Int32} (h:LN A):(A 29).length=8:=(h 29).trans A0l_29
theorem in29 {A:Nat→List Int32}{i:Nat} (h:LN A) (hi:i < 8):inB (nI i) (A 29):=nI_in (by rw [ln29 h]; exact hi) (by rw [ln29 h]; decide)
theorem ln30 {A:Nat→List Int32} (h:LN A):(A 30).length=24:=(h 30).trans A0l_30
theorem in30 {A:Nat→List Int32}{i:Nat} (h:LN A) (hi:i < 24):inB (nI i) (A 30):=nI_in (by rw [ln30 h]; exact hi) (by rw [ln30 h]; decide)
theorem ln31 {A:Nat→List Int32} (h:LN A):(A 31).length=3:=(h 31).trans A0l_31
theorem in31 {A:Nat→List Int32}{i:Nat} (h:LN A) (hi:i < 3):inB (nI i) (A 31):=nI_in (by rw [ln31 h]; exact hi) (by rw [ln31 h]; decide)
theorem nI_mul (a c:Nat):nI a * nI c=nI (a * c):=(Int32.ofNat_mul a c).symm
theorem n0T {a:Nat} (h:0 < a) (ha:a < 2147483648):(nI a=0)=False:=eq_false (nI_ne (c:=0) ha (by decide) (by omega))
theorem nnF {a:Nat} (ha:a < 2147483648):(nI a < 0)=False:=eq_false (nI_nn ha)
theorem eT {a c:Nat} (h:a=c):(nI a=nI c)=True:=eq_true (congrArg nI h)
theorem eF {a c:Nat} (h:a ≠ c) (ha:a < 2147483648) (hc:c < 2147483648):(nI a=nI c)=False:=eq_false (nI_ne ha hc h)
theorem ou_ne {A:Nat→List Int32}{j k:Nat}{l:List Int32} (h:k ≠ j):ou A j l k=A k:=by rw [ou_a,if_neg h]
theorem ou_eq {A:Nat→List Int32}{j:Nat}{l:List Int32}:ou A j l j=l:=by rw [ou_a,if_pos rfl]
theorem os_ne {s:Nat→Int32}{j k:Nat}{v:Int32} (h:k ≠ j):ou s j v k=s k:=by rw [ou_a,if_neg h]
theorem os_eq {s:Nat→Int32}{j:Nat}{v:Int32}:ou s j v j=v:=by rw [ou_a,if_pos rfl]
theorem lti {a b:Int32} (h:a < b):a.toInt < b.toInt:=by rw [lt_i] at h; exact h
theorem nlti {a b:Int32} (h:¬ a < b):b.toInt≤a.toInt:=by rw [lt_i] at h; omega
theorem ib {x:Int32}{l:List Int32}{n:Nat} (hl:l.length=n) (h0:¬ x < 0) (h1:x < nI n) (hn:n < 1000):inB x l:=by
  have a:=nlti h0
  have c:=lti h1
  rw [nI_int (by omega)] at c
  rw [i_0] at a
  rw [inB_iff]
  omega
theorem ib' {x:Int32}{l:List Int32}{n:Nat} (hl:l.length=n) (h0:0≤x.toInt) (h1:x.toInt < n):inB x l:=by
  rw [inB_iff]
  omega
theorem rgN {x:Int32}{n:Nat} (h0:0≤x.toInt) (h1:x.toInt < n):∃ k,k < n∧x=nI k:=rng h0 h1
theorem sub1 {a:Int32} (h:0 < a):(a - 1).toInt=a.toInt - 1:=by
  have h1:=lti h
  have h2:=Int32.toInt_lt a
  rw [i_0] at h1
  exact sub_i (by rw [i_1]; omega) (by rw [i_1]; omega)
theorem j_32:(32:Int32).toInt=32:=rfl
theorem j_2:(2:Int32).toInt=2:=rfl
theorem j_31:(31:Int32).toInt=31:=rfl
theorem j_64:(64:Int32).toInt=64:=rfl
theorem j_4:(4:Int32).toInt=4:=rfl
section Cmp
variable {b:Nat}{pre post:AHeap}{Q:Option Value→AHeap→Prop}{s sB:Nat→Int32}{A AB:Nat→List Int32}{n:Nat}
def PS (sB:Nat→Int32) (AB:Nat→List Int32) (n:Nat) (s:Nat→Int32) (A:Nat→List Int32):Prop:=(LN A)∧(∀ i,i < 8 ∨ 14 < i→s i=sB i)∧(∀ j,j < 17 ∨ 23 < j→A j=AB j)∧(0≤(s 13).toInt)∧((s 13).toInt≤32)∧(0≤(s 9).toInt)∧((s 9).toInt≤n)
theorem PS.ln {sB:Nat→Int32}{AB:Nat→List Int32}{n:Nat}{s:Nat→Int32}{A:Nat→List Int32} (h:PS sB AB n s A):LN A:=h.1
theorem PS.fs {sB:Nat→Int32}{AB:Nat→List Int32}{n:Nat}{s:Nat→Int32}{A:Nat→List Int32} (h:PS sB AB n s A):∀ i,i < 8 ∨ 14 < i→s i=sB i:=h.2.1
theorem PS.fa {sB:Nat→Int32}{AB:Nat→List Int32}{n:Nat}{s:Nat→Int32}{A:Nat→List Int32} (h:PS sB AB n s A):∀ j,j < 17 ∨ 23 < j→A j=AB j:=h.2.2.1
theorem PS.t0 {sB:Nat→Int32}{AB:Nat→List Int32}{n:Nat}{s:Nat→Int32}{A:Nat→List Int32} (h:PS sB AB n s A):0≤(s 13).toInt:=h.2.2.2.1
theorem PS.t1 {sB:Nat→Int32}{AB:Nat→List Int32}{n:Nat}{s:Nat→Int32}{A:Nat→List Int32} (h:PS sB AB n s A):(s 13).toInt≤32:=h.2.2.2.2.1
theorem PS.e0 {sB:Nat→Int32}{AB:Nat→List Int32}{n:Nat}{s:Nat→Int32}{A:Nat→List Int32} (h:PS sB AB n s A):0≤(s 9).toInt:=h.2.2.2.2.2.1
theorem PS.e1 {sB:Nat→Int32}{AB:Nat→List Int32}{n:Nat}{s:Nat→Int32}{A:Nat→List Int32} (h:PS sB AB n s A):(s 9).toInt≤n:=h.2.2.2.2.2.2
theorem PS.w {i:Nat}{v:Int32} (h:PS sB AB n s A) (hi:8≤i∧i≤14∧i ≠ 13∧i ≠ 9):PS sB AB n (ou s i v) A :=
  ⟨h.ln,fun k hk => by rw [os_ne (by omega)]; exact h.fs k hk,h.fa,by rw [os_ne (by omega)]; exact h.t0,by rw [os_ne (by omega)]; exact h.t1,by rw [os_ne (by omega)]; exact h.e0,by rw [os_ne (by omega)]; exact h.e1⟩
theorem PS.t {v:Int32} (h:PS sB AB n s A) (h0:0≤v.toInt) (h1:v.toInt≤32):PS sB AB n (ou s 13 v) A :=
  ⟨h.ln,fun k hk => by rw [os_ne (by omega)]; exact h.fs k hk,h.fa,h0,h1,h.e0,h.e1⟩
theorem PS.e {v:Int32}{m:Nat} (h:PS sB AB n s A) (h0:0≤v.toInt) (h1:v.toInt≤m):PS sB AB m (ou s 9 v) A :=
  ⟨h.ln,fun k hk => by rw [os_ne (by omega)]; exact h.fs k hk,h.fa,h.t0,h.t1,h0,h1⟩
theorem PS.a {j:Nat}{l:List Int32} (h:PS sB AB n s A) (hj:17≤j∧j≤23) (hl:l.length=(A0 j).length):PS sB AB n s (ou A j l) :=
  ⟨LN_ou h.ln hl,h.fs,fun k hk => by rw [ou_ne (by omega)]; exact h.fa k hk,h.t0,h.t1,h.e0,h.e1⟩
theorem PS.m {m:Nat} (h:PS sB AB n s A) (e:n≤m):PS sB AB m s A:=⟨h.ln,h.fs,h.fa,h.t0,h.t1,h.e0,by have:=h.e1; omega⟩
theorem sl {j:Nat}{x v:Int32} (h:LN A):(setA (A j) x v).length=(A0 j).length:=by rw [setA_len]; exact h j
set_option maxRecDepth 1000000 in
set_option maxHeartbeats 20000000 in
theorem emW {o a:Int32} (h:PS sB AB n s A) (hq:∀ v s' A',PS sB AB n s' A'→Q (some (.int v)) (put (b+1) pre s' A' post)):M14 0 [.val (.ref (b+1)),.val (.int (o)),.val (.int (a))] [] (put (b+1) pre s A post) Q:=by
  by_cases c1:s 8 < 0
  · simp [c1,k14_0,ks]; exact hq _ _ _ h
  by_cases c2:s 8 < 64
  · have q1:=ib (n:=64) (ln17 h.ln) c1 c2 (by decide)
    have q2:=ib (n:=64) (ln18 h.ln) c1 c2 (by decide)
    simp [c1,c2,q1,q2,k14_0,ks]
    exact hq _ _ _ (((h.a (by decide) (sl h.ln)).a (by decide) (sl h.ln)).w (by decide))
  · simp [c1,c2,k14_0,ks]; exact hq _ _ _ h
theorem pnW {a:Int32} (h:PS sB AB n s A) (hq:∀ v s' A',PS sB AB n s' A'→Q (some (.int v)) (put (b+1) pre s' A' post)):M13 0 [.val (.ref (b+1)),.val (.int (a))] [] (put (b+1) pre s A post) Q:=by
  by_cases c1:s 14 < 0
  · simp [c1,k13_0,ks]; exact hq _ _ _ h
  by_cases c2:s 14 < 32
  · have q1:=ib (n:=32) (ln23 h.ln) c1 c2 (by decide)
    simp [c1,c2,q1,k13_0,ks]
    exact hq _ _ _ ((h.a (by decide) (sl h.ln)).w (by decide))
  · simp [c1,c2,k13_0,ks]; exact hq _ _ _ h
theorem poW {k a:Int32} (h:PS sB AB n s A) (hq:∀ v s' A',PS sB AB n s' A'→Q (some (.int v)) (put (b+1) pre s' A' post)):M23 0 [.val (.ref (b+1)),.val (.int (k)),.val (.int (a))] [] (put (b+1) pre s A post) Q:=by
  by_cases c1:s 13 < 0
  · simp [c1,k23_0,ks]; exact hq _ _ _ h
  by_cases c2:s 13 < 32
  · have q1:=ib (n:=32) (ln21 h.ln) c1 c2 (by decide)
    have q2:=ib (n:=32) (ln22 h.ln) c1 c2 (by decide)
    have t0:=h.t0
    have t1:=lti c2
    rw [j_32] at t1
    have e:=add1_i (a:=s 13) (by omega)
    simp [c1,c2,q1,q2,k23_0,ks]
    exact hq _ _ _ (((h.a (by decide) (sl h.ln)).a (by decide) (sl h.ln)).t (by omega) (by omega))
  · simp [c1,c2,k23_0,ks]; exact hq _ _ _ h
theorem iuW {k:Int32} (hq:∀ v,Q (some (.int v)) (put (b+1) pre s A post)):M24 0 [.val (.ref (b+1)),.val (.int (k))] [] (put (b+1) pre s A post) Q:=by
  by_cases c1:k=5
  · simp [c1,k24_0,ks]; exact hq _
  by_cases c2:k=6
  · simp [c2,k24_0,ks]; exact hq _
  by_cases c3:k=7
  · simp [c3,k24_0,ks]; exact hq _
  · simp [c1,c2,c3,k24_0,ks]; exact hq _
theorem ibW {k:Int32} (hq:∀ v,Q (some (.int v)) (put (b+1) pre s A post)):M20 0 [.val (.ref (b+1)),.val (.int (k))] [] (put (b+1) pre s A post) Q:=by
  by_cases c1:k < 8
  · simp [c1,k20_0,ks]; exact hq _
  by_cases c2:20 < k
  · simp [c1,c2,k20_0,ks]; exact hq _
  · simp [c1,c2,k20_0,ks]; exact hq _
theorem prW {k:Int32} (hq:∀ v,Q (some (.int v)) (put (b+1) pre s A post)):M22 0 [.val (.ref (b+1)),.val (.int (k))] [] (put (b+1) pre s A post) Q:=by
  by_cases c1:k=8
  · simp [c1,k22_0,k22_1,ks]; exact hq _
  by_cases c2:k=9
  · simp [c2,k22_0,k22_1,ks]; exact hq _
  by_cases c3:k=10
  · simp [c3,k22_0,k22_1,ks]; exact hq _
  by_cases c4:k=11
  · simp [c4,k22_0,k22_1,ks]; exact hq _
  by_cases c5:k=12
  · simp [c5,k22_0,k22_1,ks]; exact hq _
  by_cases c6:k=17
  · simp [c6,k22_0,k22_1,ks]; exact hq _
  by_cases c7:k=18
  · simp [c7,k22_0,k22_1,ks]; exact hq _
  by_cases c8:k=19
  · simp [c8,k22_0,k22_1,ks]; exact hq _
  by_cases c9:k=20
  · simp [c9,k22_0,k22_1,ks]; exact hq _
  have T:M22 79 [.val (.ref (b+1)),.val (.int (k))] [] (put (b+1) pre s A post) Q:=by
    simp [k22_0,k22_1,ks]
    refine iuW (fun v => ?_)
    by_cases z:v=0
    · simp [z,k22_0,k22_1,ks]; exact hq _
    · simp [z,k22_0,k22_1,ks]; exact hq _
  by_cases c10:k < 13
  · simp [c1,c2,c3,c4,c5,c6,c7,c8,c9,c10,k22_0,m22_62,m22_63,m22_69,m22_70,m22_71,m22_77,m22_78,m22_81,m22_84,m22_87,m22_89,m22_90,m22_91,ks]; exact T
  by_cases c11:16 < k
  · simp [c1,c2,c3,c4,c5,c6,c7,c8,c9,c10,c11,k22_0,m22_62,m22_63,m22_69,m22_70,m22_71,m22_77,m22_78,m22_81,m22_84,m22_87,m22_89,m22_90,m22_91,ks]; exact T
  · simp [c1,c2,c3,c4,c5,c6,c7,c8,c9,c10,c11,k22_0,m22_62,m22_63,m22_69,m22_70,m22_71,m22_77,m22_78,m22_81,m22_84,m22_87,m22_89,m22_90,m22_91,ks]; exact hq _
theorem cnW (h:PS sB AB n s A) (hq:∀ v s' A',PS sB AB n s' A'→Q (some (.int v)) (put (b+1) pre s' A' post)):M26 0 [.val (.ref (b+1)),.unset,.unset,.unset] [] (put (b+1) pre s A post) Q:=by
  by_cases c1:s 14 < 2
  · simp [c1,k26_0,ks]; exact hq _ _ _ h
  by_cases c2:32 < s 14
  · simp [c1,c2,k26_0,ks]; exact hq _ _ _ h
  have a1:=nlti c1
  have a2:=nlti c2
  rw [j_2] at a1
  rw [j_32] at a2
  have e1:(s 14 - 1).toInt=(s 14).toInt - 1:=sub_i (by rw [i_1]; omega) (by rw [i_1]; omega)
  have e2:(s 14 - 2).toInt=(s 14).toInt - 2:=sub_i (by rw [j_2]; omega) (by rw [j_2]; omega)
  have e3:(s 14 - 1 - 1).toInt=(s 14).toInt - 2:=by rw [sub_i (by rw [i_1]; omega) (by rw [i_1]; omega),e1,i_1]; omega
  have q1:=ib' (x:=s 14 - 1) (ln23 h.ln) (by omega) (by omega)
  have q2:=ib' (x:=s 14 - 2) (ln23 h.ln) (by omega) (by omega)
  have q3:=ib' (x:=s 14 - 1 - 1) (ln23 h.ln) (by omega) (by omega)
  by_cases c3:getA (A 23) (s 14 - 1)+1 < getA (A 23) (s 14 - 2)
  · simp [c1,c2,c3,q1,q2,q3,k26_0,ks]
    exact hq _ _ _ ((h.w (by decide)).a (by decide) (sl h.ln))
  · simp [c1,c2,c3,q1,q2,q3,k26_0,ks]
    exact hq _ _ _ ((h.w (by decide)).a (by decide) (sl h.ln))
theorem roW {k a:Int32} (h:PS sB AB n s A) (hq:∀ v s' A',PS sB AB n s' A'→Q (some (.int v)) (put (b+1) pre s' A' post)):M25 0 [.val (.ref (b+1)),.val (.int (k)),.val (.int (a))] [] (put (b+1) pre s A post) Q:=by
  simp [k25_0,k25_1,ks]
  refine iuW (fun v => ?_)
  by_cases z:v=0
  · simp [z,k25_0,k25_1,ks]
    refine cnW h (fun v s' A' h' => ?_)
    by_cases z1:v=0
    · simp [z1,k25_0,k25_1,ks]; exact hq _ _ _ h'
    have T:M25 46 [.val (.ref (b+1)),.val (.int (k)),.val (.int (a))] [] (put (b+1) pre s' A' post) Q:=by
      simp [k25_0,k25_1,ks]
      refine emW h' (fun v s1 A1 h1 => ?_)
      by_cases z2:v=0
      · simp [z2,k25_0,k25_1,ks]; exact hq _ _ _ h1
      by_cases c1:a < 0
      · simp [z2,c1,k25_0,k25_1,ks]; exact hq _ _ _ h1
      by_cases c2:a < 64
      · have q1:=ib (n:=64) (ln18 h1.ln) c1 c2 (by decide)
        simp [z2,c1,c2,q1,k25_0,k25_1,ks]; exact hq _ _ _ (h1.a (by decide) (sl h1.ln))
      · simp [z2,c1,c2,k25_0,k25_1,ks]; exact hq _ _ _ h1
    by_cases c1:k=19
    · simp [z1,c1,k25_0,m25_50,m25_53,m25_56,m25_57,m25_58,m25_62,m25_68,m25_78,m25_79,m25_80,m25_83,m25_86,ks]; rw [← c1]; exact T
    by_cases c2:k=20
    · simp [z1,c2,k25_0,m25_50,m25_53,m25_56,m25_57,m25_58,m25_62,m25_68,m25_78,m25_79,m25_80,m25_83,m25_86,ks]; rw [← c2]; exact T
    · simp [z1,c1,c2,k25_0,m25_50,m25_53,m25_56,m25_57,m25_58,m25_62,m25_68,m25_78,m25_79,m25_80,m25_83,m25_86,ks]
      refine emW h' (fun v s1 A1 h1 => ?_)
      simp [k25_0,k25_1,ks]; exact hq _ _ _ h1
  · by_cases c1:s 14 < 1
    · simp [z,c1,k25_0,k25_1,ks]; exact hq _ _ _ h
    · simp [z,c1,k25_0,k25_1,ks]
      refine emW h (fun v s1 A1 h1 => ?_)
      simp [k25_0,k25_1,ks]; exact hq _ _ _ h1
theorem rwL {mn:Int32} (hq:∀ v s' A',PS sB AB n s' A'→Q (some (.int v)) (put (b+1) pre s' A' post)):∀ (r i:Nat) (l3:Slot) (s:Nat→Int32) (A:Nat→List Int32),i+r=32→okS l3→PS sB AB n s A→M16 2 [.val (.ref (b+1)),.val (.int (mn)),.val (.int (nI i)),l3] [] (put (b+1) pre s A post) Q:=by
  intro r
  induction r with
  | zero =>
    intro i l3 s A e o3 h
    have c1:(nI i < 32)=False:=lF (c:=32) (by omega) (by omega)
    rw [m16_2]
    simp [c1,m16_0,k16_0,k16_1,ks]
    exact hq _ _ _ h
  | succ r ih =>
    intro i l3 s A e o3 h
    have c1:(nI i < 32)=True:=lT (c:=32) (by omega) (by decide)
    rw [m16_2]
    by_cases c2:0 < s 13
    · have t0:=h.t0
      have t1:=h.t1
      have e1:=sub1 c2
      have p1:=lti c2
      rw [i_0] at p1
      have q1:=ib' (x:=s 13 - 1) (ln21 h.ln) (by omega) (by omega)
      have q2:=ib' (x:=s 13 - 1) (ln22 h.ln) (by omega) (by omega)
      by_cases c3:getA (A 21) (s 13 - 1)=2
      · simp [c1,c2,c3,q1,q2,o3,m16_0,k16_0,k16_1,ks]
        exact hq _ _ _ h
      simp [c1,c2,c3,q1,q2,o3,m16_0,k16_0,k16_1,ks]
      refine prW (fun v => ?_)
      by_cases c4:v < mn
      · simp [c4,m16_0,k16_0,k16_1,ks]; exact hq _ _ _ h
      simp [c4,q2,m16_0,k16_0,k16_1,ks]
      refine roW (h.t (by omega) (by omega)) (fun v s1 A1 h1 => ?_)
      by_cases z:v=0
      · simp [z,m16_0,k16_0,k16_1,ks]; exact hq _ _ _ h1
      simp [z,nI_1,m16_0,k16_0,k16_1,ks]
      exact ih (i+1) _ s1 A1 (by omega) (okS_i _) h1
    · simp [c1,c2,m16_0,k16_0,k16_1,ks]
      exact hq _ _ _ h
theorem rwW {mn:Int32} (h:PS sB AB n s A) (hq:∀ v s' A',PS sB AB n s' A'→Q (some (.int v)) (put (b+1) pre s' A' post)):M16 0 [.val (.ref (b+1)),.val (.int (mn)),.unset,.unset] [] (put (b+1) pre s A post) Q:=by
  simp [m16_0,k16_0,k16_1,ks]
  exact rwL hq 32 0 _ s A (by omega) okS_u h
theorem ceW (h:PS sB AB n s A) (hn:n < 1000) (hq0:∀ v,v=0→Q (some (.int v)) (put (b+1) pre s A post)) (hq:∀ v s' A',PS sB AB (n+1) s' A'→1≤(s' 9).toInt→Q (some (.int v)) (put (b+1) pre s' A' post)):M17 0 [.val (.ref (b+1)),.unset] [] (put (b+1) pre s A post) Q:=by
  by_cases c1:s 14=1
  · have q0:=in23 h.ln (i:=0) (by decide)
    have q0':inB 0 (A 23):=q0
    have e0:=h.e0
    have e1:=h.e1
    have e:=add1_i (a:=s 9) (by omega)
    have T:∀ s',PS sB AB n s' A→s' 9=s 9→M17 30 [.val (.ref (b+1)),.val (.int (getA (A 23) 0))] [] (put (b+1) pre s' A post) Q:=by
      intro s' h' e9
      by_cases c2:s 9 < 0
      · have:=lti c2
        rw [i_0] at this
        omega
      by_cases c3:s 9 < 4
      · have q1:=ib (n:=4) (ln19 h.ln) c2 c3 (by decide)
        have q2:=ib (n:=4) (ln20 h.ln) c2 c3 (by decide)
        simp [e9,c2,c3,q1,q2,k17_0,ks]
        exact hq _ _ _ ((((((h'.a (by decide) (sl h.ln)).a (by decide) (sl h.ln)).e (m:=n+1) (by omega) (by omega)).w (by decide)).w (by decide))) (by show 1≤(s 9+1).toInt; omega)
      · simp [e9,c2,c3,k17_0,ks]
        exact hq _ _ _ (((h'.e (m:=n+1) (by omega) (by omega)).w (by decide)).w (by decide)) (by show 1≤(s 9+1).toInt; omega)
    by_cases c4:s 11 < getA (A 23) 0
    · simp [c1,c4,q0',m17_0,m17_8,m17_9,m17_10,m17_16u,m17_17,m17_25,m17_37,m17_45,m17_58,m17_71,m17_81,m17_89,m17_94,m17_95,ks]
      exact T _ (h.w (by decide)) rfl
    · simp [c1,c4,q0',m17_0,m17_8,m17_9,m17_10,m17_16u,m17_17,m17_25,m17_37,m17_45,m17_58,m17_71,m17_81,m17_89,m17_94,m17_95,ks]
      exact T _ h rfl
  · simp [c1,k17_0,ks]; exact hq0 _ rfl
set_option maxRecDepth 1000000 in
set_option maxHeartbeats 20000000 in
theorem fsW (h:PS sB AB n s A) (hn:n < 1000) (hq:∀ v s' A',PS sB AB (n+1) s' A'→v=0 ∨ 1≤(s' 9).toInt→Q (some (.int v)) (put (b+1) pre s' A' post)):M15 0 [.val (.ref (b+1))] [] (put (b+1) pre s A post) Q:=by
  by_cases c1:s 12=0
  · simp [c1,k15_0,ks]
    refine rwW h (fun v s1 A1 h1 => ?_)
    by_cases z:v=0
    · simp [z,k15_0,ks]; exact hq _ _ _ (h1.m (by omega)) (Or.inl rfl)
    by_cases c2:s1 13=0
    · simp [z,c2,k15_0,ks]
      refine ceW h1 hn (fun v e => ?_) (fun v s2 A2 h2 g2 => ?_)
      · simp [e,k15_0,ks]; exact hq _ _ _ (h1.m (by omega)) (Or.inl rfl)
      · simp [k15_0,ks]; exact hq _ _ _ h2 (Or.inr g2)
    · simp [z,c2,k15_0,ks]; exact hq _ _ _ (h1.m (by omega)) (Or.inl rfl)
  · simp [c1,k15_0,ks]; exact hq _ _ _ (h.m (by omega)) (Or.inl rfl)
theorem eeW (h:PS sB AB n s A) (hn:n < 1000) (hq:∀ v s' A',PS sB AB (n+1) s' A'→Q (some (.int v)) (put (b+1) pre s' A' post)):M37 0 [.val (.ref (b+1))] [] (put (b+1) pre s A post) Q:=by
  simp [k37_0,ks]
  refine rwW h (fun v s1 A1 h1 => ?_)
  by_cases z:v=0
  · simp [z,k37_0,ks]; exact hq _ _ _ (h1.m (by omega))
  by_cases c2:s1 13=0
  · simp [z,c2,k37_0,ks]
    refine ceW h1 hn (fun v e => ?_) (fun v s2 A2 h2 g2 => ?_)
    · simp [e,k37_0,ks]; exact hq _ _ _ (h1.m (by omega))
    · by_cases z2:v=0
      · simp [z2,k37_0,ks]; exact hq _ _ _ h2
      · simp [z2,k37_0,ks]; exact hq _ _ _ (h2.w (by decide))
  · simp [z,c2,k37_0,ks]; exact hq _ _ _ (h1.m (by omega))
theorem cpW (h:PS sB AB n s A) (hq:∀ v s' A',PS sB AB n s' A'→Q (some (.int v)) (put (b+1) pre s' A' post)):M36 0 [.val (.ref (b+1))] [] (put (b+1) pre s A post) Q:=by
  simp [k36_0,ks]
  refine rwW h (fun v s1 A1 h1 => ?_)
  by_cases z:v=0
  · simp [z,k36_0,ks]; exact hq _ _ _ h1
  by_cases c2:0 < s1 13
  · have t0:=h1.t0
    have t1:=h1.t1
    have e1:=sub1 c2
    have p1:=lti c2
    rw [i_0] at p1
    have q1:=ib' (x:=s1 13 - 1) (ln21 h1.ln) (by omega) (by omega)
    by_cases c3:getA (A1 21) (s1 13 - 1)=2
    · simp [z,c2,c3,q1,k36_0,ks]; exact hq _ _ _ (h1.t (by omega) (by omega))
    · simp [z,c2,c3,q1,k36_0,ks]; exact hq _ _ _ h1
  · simp [z,c2,k36_0,ks]; exact hq _ _ _ h1
theorem boW {k:Int32} (h:PS sB AB n s A) (hq:∀ v s' A',PS sB AB n s' A'→Q (some (.int v)) (put (b+1) pre s' A' post)):M21 0 [.val (.ref (b+1)),.val (.int (k)),.unset,.unset] [] (put (b+1) pre s A post) Q:=by
  simp [k21_0,k21_1,ks]
  refine prW (fun p => ?_)
  simp [k21_0,k21_1,ks]
  refine rwW h (fun v s1 A1 h1 => ?_)
  by_cases z:v=0
  · simp [z,k21_0,k21_1,ks]; exact hq _ _ _ h1
  have T:∀ s2 A2,PS sB AB n s2 A2→M21 44 [.val (.ref (b+1)),.val (.int (k)),.val (.int (p)),.val (.int (s1 8))] [] (put (b+1) pre s2 A2 post) Q:=by
    intro s2 A2 h2
    simp [k21_0,k21_1,ks]
    refine poW h2 (fun v s3 A3 h3 => ?_)
    by_cases z2:v=0
    · simp [z2,k21_0,k21_1,ks]; exact hq _ _ _ h3
    · simp [z2,k21_0,k21_1,ks]; exact hq _ _ _ (h3.w (by decide))
  have T2:M21 33 [.val (.ref (b+1)),.val (.int (k)),.val (.int (p)),.val (.int (s1 8))] [] (put (b+1) pre s1 A1 post) Q:=by
    simp [m21_0,m21_2,m21_5u,m21_6,m21_8,m21_11,m21_14,m21_15,m21_16,m21_27,m21_33,m21_36,m21_39,m21_42,m21_43,k21_1,ks]
    refine emW h1 (fun v s2 A2 h2 => ?_)
    by_cases z2:v=0
    · simp [z2,k21_0,k21_1,ks]; exact hq _ _ _ h2
    · simp [z2,m21_0,m21_2,m21_5u,m21_6,m21_8,m21_11,m21_14,m21_15,m21_16,m21_27,m21_33,m21_36,m21_39,m21_42,m21_43,k21_1,ks]; exact T s2 A2 h2
  by_cases c1:k=19
  · simp [z,c1,m21_0,m21_2,m21_5u,m21_6,m21_8,m21_11,m21_14,m21_15,m21_16,m21_27,m21_36,m21_39,m21_42,m21_43,k21_1,ks]; rw [← c1]; exact T2
  by_cases c2:k=20
  · simp [z,c2,m21_0,m21_2,m21_5u,m21_6,m21_8,m21_11,m21_14,m21_15,m21_16,m21_27,m21_36,m21_39,m21_42,m21_43,k21_1,ks]; rw [← c2]; exact T2
  · simp [z,c1,c2,m21_0,m21_2,m21_5u,m21_6,m21_8,m21_11,m21_14,m21_15,m21_16,m21_27,m21_36,m21_39,m21_42,m21_43,k21_1,ks]; exact T s1 A1 h1
theorem pdW {k w:Int32} (h:PS sB AB n s A) (hq:∀ v s' A',PS sB AB n s' A'→Q (some (.int v)) (put (b+1) pre s' A' post)):M12 0 [.val (.ref (b+1)),.val (.int (k)),.val (.int (w))] [] (put (b+1) pre s A post) Q:=by
  have T:M12 9 [.val (.ref (b+1)),.val (.int (k)),.val (.int (w))] [] (put (b+1) pre s A post) Q:=by
    simp [k12_0,k12_1,ks]
    refine pnW h (fun v s1 A1 h1 => ?_)
    by_cases z:v=0
    · simp [z,k12_0,k12_1,ks]; exact hq _ _ _ h1
    simp [z,k12_0,k12_1,ks]
    refine emW h1 (fun v s2 A2 h2 => ?_)
    by_cases z2:v=0
    · simp [z2,k12_0,k12_1,ks]; exact hq _ _ _ h2
    · simp [z2,k12_0,k12_1,ks]; exact hq _ _ _ (h2.w (by decide))
  by_cases c1:k=0
  · simp [c1,m12_0,m12_4,m12_11,m12_14,m12_17,m12_18,m12_19,m12_22,m12_25,m12_28,m12_29,m12_30,m12_35,m12_36,m12_37,k12_1,ks]; rw [← c1]; exact T
  by_cases c2:k=1
  · simp [c2,m12_0,m12_4,m12_11,m12_14,m12_17,m12_18,m12_19,m12_22,m12_25,m12_28,m12_29,m12_30,m12_35,m12_36,m12_37,k12_1,ks]; rw [← c2]; exact T
  simp [c1,c2,k12_0,k12_1,ks]
  refine iuW (fun v => ?_)
  have T2:M12 50 [.val (.ref (b+1)),.val (.int (k)),.val (.int (w))] [] (put (b+1) pre s A post) Q:=by
    simp [k12_0,k12_1,ks]
    refine poW h (fun v s1 A1 h1 => ?_)
    simp [k12_0,k12_1,ks]; exact hq _ _ _ h1
  by_cases z:v=0
  · by_cases c3:k=2
    · simp [z,c3,k12_0,m12_39,m12_42,m12_45,m12_53,m12_56,m12_57,m12_58,ks]; rw [← c3]; exact T2
    · simp [z,c3,k12_0,m12_39,m12_42,m12_45,m12_53,m12_56,m12_57,m12_58,ks]; exact hq _ _ _ h
  · simp [z,k12_0,m12_39,m12_42,m12_45,m12_53,m12_56,m12_57,m12_58,ks]; exact T2
theorem ptW {k:Int32} (h:PS sB AB n s A) (hn:n < 1000) (hq:∀ v s' A',PS sB AB (n+1) s' A'→Q (some (.int v)) (put (b+1) pre s' A' post)):M19 0 [.val (.ref (b+1)),.val (.int (k))] [] (put (b+1) pre s A post) Q:=by
  by_cases c1:k=3
  · simp [c1,k19_0,ks]
    refine cpW h (fun v s1 A1 h1 => ?_)
    simp [k19_0,ks]; exact hq _ _ _ (h1.m (by omega))
  by_cases c2:k=4
  · simp [c2,k19_0,ks]
    refine eeW h hn (fun v s1 A1 h1 => ?_)
    simp [k19_0,ks]; exact hq _ _ _ h1
  simp [c1,c2,k19_0,ks]
  refine ibW (fun v => ?_)
  by_cases z:v=0
  · simp [z,k19_0,ks]; exact hq _ _ _ (h.m (by omega))
  simp [z,k19_0,ks]
  refine boW h (fun v s1 A1 h1 => ?_)
  simp [k19_0,ks]; exact hq _ _ _ (h1.m (by omega))
theorem paL (hq:∀ v s' A',PS sB AB 100 s' A'→v=0 ∨ 1≤(s' 9).toInt→Q (some (.int v)) (put (b+1) pre s' A' post)):∀ (r i:Nat) (l2 l3 l4:Slot) (s:Nat→Int32) (A:Nat→List Int32),i+r=32→okS l2→okS l3→okS l4→PS sB AB i s A→M10 15 [.val (.ref (b+1)),.val (.int (nI i)),l2,l3,l4] [] (put (b+1) pre s A post) Q:=by
  intro r
  induction r with
  | zero =>
    intro i l2 l3 l4 s A e o2 o3 o4 h
    have c1:(nI i < 32)=False:=lF (c:=32) (by omega) (by omega)
    rw [m10_15]
    simp [c1,k10_0,k10_1,k10_2,ks]
    refine fsW h (by omega) (fun v s1 A1 h1 g1 => ?_)
    simp [k10_0,k10_1,k10_2,ks]
    exact hq _ _ _ (h1.m (by omega)) (g1.imp (fun e => by subst e; rfl) id)
  | succ r ih =>
    intro i l2 l3 l4 s A e o2 o3 o4 h
    have c1:(nI i < 32)=True:=lT (c:=32) (by omega) (by decide)
    have q1:=in5 h.ln (i:=i) (by omega)
    have q2:=in6 h.ln (i:=i) (by omega)
    rw [m10_15]
    by_cases c2:nI i < s 7
    · have T:∀ v s1 A1,PS sB AB (i+1) s1 A1→M10 64 [.val (.ref (b+1)),.val (.int (nI i)),.val (.int (getA (A 5) (nI i))),.val (.int (getA (A 6) (nI i))),l4] [.int v] (put (b+1) pre s1 A1 post) Q:=by
        intro v s1 A1 h1
        by_cases z:v=0
        · simp [z,o4,k10_0,k10_1,k10_2,ks]; exact hq _ _ _ (h1.m (by omega)) (Or.inl rfl)
        · simp [z,o4,nI_1,k10_0,k10_1,k10_2,ks]; exact ih (i+1) _ _ _ s1 A1 (by omega) (okS_i _) (okS_i _) (okS_i _) h1
      by_cases c3:s 12=0
      · simp [c1,c2,c3,q1,q2,o2,o3,k10_0,k10_1,k10_2,ks]
        refine ptW h (by omega) (fun v s1 A1 h1 => ?_)
        simp [k10_0,k10_1,k10_2,ks]
        exact T v s1 A1 h1
      · simp [c1,c2,c3,q1,q2,o2,o3,k10_0,k10_1,k10_2,ks]
        refine pdW h (fun v s1 A1 h1 => ?_)
        simp [k10_0,k10_1,k10_2,ks]
        exact T v s1 A1 (h1.m (by omega))
    · simp [c1,c2,k10_0,k10_1,k10_2,ks]
      refine fsW h (by omega) (fun v s1 A1 h1 g1 => ?_)
      simp [k10_0,k10_1,k10_2,ks]
      exact hq _ _ _ (h1.m (by omega)) (g1.imp (fun e => by subst e; rfl) id)
theorem paW (h:LN A) (hq:∀ v s' A',PS s A 100 s' A'→v=0 ∨ 1≤(s' 9).toInt→Q (some (.int v)) (put (b+1) pre s' A' post)):M10 0 [.val (.ref (b+1)),.unset,.unset,.unset,.unset] [] (put (b+1) pre s A post) Q:=by
  have z:PS s A 0 (ou (ou (ou (ou (ou (ou (ou s 8 0) 9 0) 10 0) 11 0) 12 1) 13 0) 14 0) A:=⟨h,fun i hi => by (repeat rw [os_ne (by omega)]),fun _ _ => rfl,by show (0:Int)≤(0:Int32).toInt; decide,by show (0:Int32).toInt≤32; decide,by show (0:Int)≤(0:Int32).toInt; decide,by show (0:Int32).toInt≤(0:Nat); decide⟩
  by_cases c1:0 < s 7
  · simp [c1,k10_0,k10_1,k10_2,ks,k11_0,ks]
    exact paL hq 32 0 _ _ _ _ _ (by omega) okS_u okS_u okS_u z
  · simp [c1,k10_0,k10_1,k10_2,ks,k11_0,ks]
    exact hq _ _ _ (z.m (by omega)) (Or.inl rfl)
end Cmp
def DV (s:Nat→Int32) (A:Nat→List Int32):Prop:=(LN A)∧(∃ x,x < 32∧s 0=nI x)∧(∀ p q,p < 4→q < 4→getA (A 7) (nI p)=2→getA (A 7) (nI q)=2→getA (A 8) (nI p)=getA (A 8) (nI q)→p=q)∧(∀ p,p < 4→getA (A 7) (nI p) ≠ 0→1≤(getA (A 11) (nI p)).toInt)∧(∀ p,p < 4→getA (A 7) (nI p)=2→getA (A 9) (nI p)=0 ∨ getA (A 9) (nI p)=1)∧(0≤(s 20).toInt)∧(1≤(s 17).toInt)
theorem DV.ln {s:Nat→Int32}{A:Nat→List Int32} (h:DV s A):LN A:=h.1
theorem DV.pc {s:Nat→Int32}{A:Nat→List Int32} (h:DV s A):∃ x,x < 32∧s 0=nI x:=h.2.1
theorem DV.uq {s:Nat→Int32}{A:Nat→List Int32} (h:DV s A):∀ p q,p < 4→q < 4→getA (A 7) (nI p)=2→getA (A 7) (nI q)=2→getA (A 8) (nI p)=getA (A 8) (nI q)→p=q:=h.2.2.1
theorem DV.ex {s:Nat→Int32}{A:Nat→List Int32} (h:DV s A):∀ p,p < 4→getA (A 7) (nI p) ≠ 0→1≤(getA (A 11) (nI p)).toInt:=h.2.2.2.1
theorem DV.md {s:Nat→Int32}{A:Nat→List Int32} (h:DV s A):∀ p,p < 4→getA (A 7) (nI p)=2→getA (A 9) (nI p)=0 ∨ getA (A 9) (nI p)=1:=h.2.2.2.2.1
theorem DV.fh {s:Nat→Int32}{A:Nat→List Int32} (h:DV s A):0≤(s 20).toInt:=h.2.2.2.2.2.1
theorem DV.cp {s:Nat→Int32}{A:Nat→List Int32} (h:DV s A):1≤(s 17).toInt:=h.2.2.2.2.2.2
def KP (A A':Nat→List Int32):Prop:=∀ j,2≤j∧j≤4→A' j=A j
def AF (lo hi:Nat) (A A':Nat→List Int32):Prop:=LN A'∧∀ j,j < lo ∨ hi < j→A' j=A j
section Slots
variable {b:Nat}{pre post:AHeap}{Q:Option Value→AHeap→Prop}{s s':Nat→Int32}{A A' A'':Nat→List Int32}{lo hi:Nat}
theorem AF_r (h:LN A):AF lo hi A A:=⟨h,fun _ _ => rfl⟩
theorem AF_o {j:Nat}{l:List Int32} (h:AF lo hi A A') (hj:lo≤j∧j≤hi) (hl:l.length=(A0 j).length):AF lo hi A (ou A' j l):=⟨LN_ou h.1 hl,fun k hk => by rw [ou_ne (by omega)]; exact h.2 k hk⟩
theorem KP_r:KP A A:=fun _ _ => rfl
theorem KP_t (h:KP A A') (g:KP A' A''):KP A A'':=fun j hj => (g j hj).trans (h j hj)
theorem KP_o {j:Nat}{l:List Int32} (h:KP A A') (hj:j < 2 ∨ 4 < j):KP A (ou A' j l):=fun k hk => by rw [ou_ne (by omega)]; exact h k hk
theorem DV.fr (h:DV s A) (hl:LN A') (ha:∀ j,j=7 ∨ j=8 ∨ j=9 ∨ j=11→A' j=A j) (hs:∀ i,i=0 ∨ i=17 ∨ i=20→s' i=s i):DV s' A':=by
  refine ⟨hl,?_,?_,?_,?_,?_,?_⟩
  · rw [hs 0 (by omega)]; exact h.pc
  · rw [ha 7 (by omega),ha 8 (by omega)]; exact h.uq
  · rw [ha 7 (by omega),ha 11 (by omega)]; exact h.ex
  · rw [ha 7 (by omega),ha 9 (by omega)]; exact h.md
  · rw [hs 20 (by omega)]; exact h.fh
  · rw [hs 17 (by omega)]; exact h.cp
theorem DV.o {j:Nat}{l:List Int32} (h:DV s A) (hj:j ≠ 7∧j ≠ 8∧j ≠ 9∧j ≠ 11) (hl:l.length=(A0 j).length):DV s (ou A j l):=h.fr (LN_ou h.ln hl) (fun k hk => ou_ne (by omega)) (fun _ _ => rfl)
theorem DV.w {i:Nat}{v:Int32} (h:DV s A) (hi:i ≠ 0∧i ≠ 17∧i ≠ 20):DV (ou s i v) A:=h.fr h.ln (fun _ _ => rfl) (fun k hk => os_ne (by omega))
theorem DV.p {x:Nat} (h:DV s A) (hx:x < 32):DV (ou s 0 (nI x)) A:=⟨h.ln,⟨x,hx,rfl⟩,h.uq,h.ex,h.md,h.fh,h.cp⟩
theorem nI_x4 (v:Nat):nI v * 4=nI (v * 4):=nI_mul v 4
theorem nI_x64 (v:Nat):nI v * 64=nI (v * 64):=nI_mul v 64
theorem nI_x3 (v:Nat):nI v * 3=nI (v * 3):=nI_mul v 3
theorem g3F {q:Nat} (h:q < 4):((3:Int32) < nI q)=False:=lF (a:=3) (c:=q) (by omega) (by decide)
set_option maxRecDepth 1000000 in
set_option maxHeartbeats 20000000 in
theorem saA {q:Nat} (hq4:q < 4) (B:Nat→List Int32) (hq:∀ l4 A',okS l4→AF 13 16 B A'→M18 91 [.val (.ref (b+1)),.val (.int (nI q)),.val (.int (nI (q * 64))),.val (.int (nI 64)),l4] [] (put (b+1) pre s A' post) Q):∀ (r i:Nat) (l4:Slot) (A:Nat→List Int32),i+r=64→okS l4→AF 13 16 B A→M18 18 [.val (.ref (b+1)),.val (.int (nI q)),.val (.int (nI (q * 64))),.val (.int (nI i)),l4] [] (put (b+1) pre s A post) Q:=by
  intro r
  induction r with
  | zero =>
    intro i l4 A e o4 h
    obtain rfl:i=64:=by omega
    have c1:(nI 64 < 64)=False:=lF (c:=64) (by omega) (by omega)
    rw [m18_18]
    simp [c1,k18_0,m18_24,m18_32,m18_36,m18_37g,m18_39,m18_51,m18_57,m18_60,m18_61,m18_62,m18_74,m18_80,m18_83,m18_84,m18_85,m18_93,k18_2,k18_3,ks]
    exact hq _ _ o4 h
  | succ r ih =>
    intro i l4 A e o4 h
    have c1:(nI i < 64)=True:=lT (c:=64) (by omega) (by decide)
    have q1:=in17 h.1 (i:=i) (by omega)
    have q2:=in18 h.1 (i:=i) (by omega)
    have q3:=in13 h.1 (i:=q * 64+i) (by omega)
    have q4:=in14 h.1 (i:=q * 64+i) (by omega)
    rw [m18_18]
    by_cases c2:nI i < s 8
    · simp [c1,c2,q1,q2,q3,q4,o4,nI_add,nI_1,k18_0,m18_24,m18_32,m18_36,m18_37g,m18_39,m18_51,m18_57,m18_60,m18_61,m18_62,m18_74,m18_80,m18_83,m18_84,m18_85,m18_93,k18_2,k18_3,ks]
      exact ih (i+1) _ _ (by omega) (okS_i _) (AF_o (AF_o h (by decide) (sl h.1)) (by decide) (sl h.1))
    · simp [c1,c2,q1,q2,q3,q4,o4,nI_add,nI_1,k18_0,m18_24,m18_32,m18_36,m18_37g,m18_39,m18_51,m18_57,m18_60,m18_61,m18_62,m18_74,m18_80,m18_83,m18_84,m18_85,m18_93,k18_2,k18_3,ks]
      exact ih (i+1) _ _ (by omega) (okS_i _) (AF_o (AF_o h (by decide) (sl h.1)) (by decide) (sl h.1))
theorem saB {q:Nat} (hq4:q < 4) (B:Nat→List Int32) (hq:∀ l4 A',okS l4→AF 13 16 B A'→M18 169 [.val (.ref (b+1)),.val (.int (nI q)),.val (.int (nI (q * 64))),.val (.int (nI 4)),l4] [] (put (b+1) pre s A' post) Q):∀ (r i:Nat) (l4:Slot) (A:Nat→List Int32),i+r=4→okS l4→AF 13 16 B A→M18 93 [.val (.ref (b+1)),.val (.int (nI q)),.val (.int (nI (q * 64))),.val (.int (nI i)),l4] [] (put (b+1) pre s A post) Q:=by
  intro r
  induction r with
  | zero =>
    intro i l4 A e o4 h
    obtain rfl:i=4:=by omega
    have c1:(nI 4 < 4)=False:=lF (c:=4) (by omega) (by omega)
    rw [m18_93]
    simp [c1,k18_0,m18_18,k18_1,m18_98,m18_106,m18_110,m18_111g,m18_113,m18_127,m18_133,m18_136,m18_137,m18_138,m18_152,m18_158,m18_161,m18_162,m18_163,k18_3,ks]
    exact hq _ _ o4 h
  | succ r ih =>
    intro i l4 A e o4 h
    have c1:(nI i < 4)=True:=lT (c:=4) (by omega) (by decide)
    have q1:=in19 h.1 (i:=i) (by omega)
    have q2:=in20 h.1 (i:=i) (by omega)
    have q3:=in15 h.1 (i:=q * 4+i) (by omega)
    have q4:=in16 h.1 (i:=q * 4+i) (by omega)
    rw [m18_93]
    by_cases c2:nI i < s 9
    · simp [c1,c2,q1,q2,q3,q4,o4,nI_add,nI_x4,nI_1,k18_0,m18_18,k18_1,m18_98,m18_106,m18_110,m18_111g,m18_113,m18_127,m18_133,m18_136,m18_137,m18_138,m18_152,m18_158,m18_161,m18_162,m18_163,k18_3,ks]
      exact ih (i+1) _ _ (by omega) (okS_i _) (AF_o (AF_o h (by decide) (sl h.1)) (by decide) (sl h.1))
    · simp [c1,c2,q1,q2,q3,q4,o4,nI_add,nI_x4,nI_1,k18_0,m18_18,k18_1,m18_98,m18_106,m18_110,m18_111g,m18_113,m18_127,m18_133,m18_136,m18_137,m18_138,m18_152,m18_158,m18_161,m18_162,m18_163,k18_3,ks]
      exact ih (i+1) _ _ (by omega) (okS_i _) (AF_o (AF_o h (by decide) (sl h.1)) (by decide) (sl h.1))
theorem g4 {l:List Int32}{p q:Nat}{x:Int32} (hl:l.length=4) (hp:p < 4) (hq:q < 4):getA (setA l (nI q) x) (nI p)=if p=q then x else getA l (nI p):=cf_set (by omega) (by omega) (by omega)
theorem DV.st {q:Nat}{k:Int32} (h:DV s A) (hq:q < 4) (hl:LN A') (h7:A' 7=A 7 ∨ (getA (A 7) (nI q)=0∧A' 7=setA (A 7) (nI q) 1)) (h8:A' 8=A 8) (h9:A' 9=A 9) (h11:A' 11=setA (A 11) (nI q) k) (hk:1≤k.toInt):DV s A':=by
  have S:∀ p,p < 4→getA (A' 7) (nI p)=2→getA (A 7) (nI p)=2:=by
    intro p hp
    rcases h7 with e | ⟨e0,e⟩
    · rw [e]; exact id
    · rw [e,g4 (ln7 h.ln) hp hq]
      split
      · intro c; exact absurd c (by decide)
      · exact id
  refine ⟨hl,h.pc,fun p r hp hr a c d => h.uq p r hp hr (S p hp a) (S r hr c) (by rw [h8] at d; exact d),fun p hp c => ?_,fun p hp c => by rw [h9]; exact h.md p hp (S p hp c),h.fh,h.cp⟩
  rw [h11,g4 (ln11 h.ln) hp hq]
  split
  · exact hk
  · rename_i n
    apply h.ex p hp
    rcases h7 with e | ⟨e0,e⟩
    · rw [e] at c; exact c
    · rw [e,g4 (ln7 h.ln) hp hq,if_neg n] at c; exact c
theorem DV.ins {q:Nat}{x m:Int32} (h:DV s A) (hq:q < 4) (h3:¬ getA (A 7) (nI q)=0) (hu:∀ p,p < 4→getA (A 7) (nI p)=2→getA (A 8) (nI p)=x→p=q) (hm:m=0 ∨ m=1):DV s (ou (ou (ou (ou A 7 (setA (A 7) (nI q) 2)) 8 (setA (A 8) (nI q) x)) 9 (setA (A 9) (nI q) m)) 10 (setA (A 10) (nI q) 0)):=by
  have l:=h.ln
  have e7:∀ p,p < 4→getA (setA (A 7) (nI q) 2) (nI p)=if p=q then 2 else getA (A 7) (nI p):=fun p hp => g4 (ln7 l) hp hq
  have e8:∀ p,p < 4→getA (setA (A 8) (nI q) x) (nI p)=if p=q then x else getA (A 8) (nI p):=fun p hp => g4 (ln8 l) hp hq
  have e9:∀ p,p < 4→getA (setA (A 9) (nI q) m) (nI p)=if p=q then m else getA (A 9) (nI p):=fun p hp => g4 (ln9 l) hp hq
  refine ⟨LN_ou (LN_ou (LN_ou (LN_ou l (sl l)) (sl l)) (sl l)) (sl l),h.pc,?_,?_,?_,h.fh,h.cp⟩
  · intro p r hp hr a c d
    have a':=(e7 p hp).symm.trans a
    have c':=(e7 r hr).symm.trans c
    have d':=((e8 p hp).symm.trans d).trans (e8 r hr)
    by_cases gp:p=q <;> by_cases gr:r=q
    · omega
    · rw [if_pos gp,if_neg gr] at d'
      rw [if_neg gr] at c'
      exact absurd (hu r hr c' d'.symm) gr
    · rw [if_neg gp,if_pos gr] at d'
      rw [if_neg gp] at a'
      exact absurd (hu p hp a' d') gp
    · rw [if_neg gp,if_neg gr] at d'
      rw [if_neg gp] at a'
      rw [if_neg gr] at c'
      exact h.uq p r hp hr a' c' d'
  · intro p hp c
    show 1≤(getA (A 11) (nI p)).toInt
    by_cases gp:p=q
    · rw [gp]; exact h.ex q hq h3
    · exact h.ex p hp (fun e => c ((e7 p hp).trans (by rw [if_neg gp]; exact e)))
  · intro p hp c
    have c':=(e7 p hp).symm.trans c
    have e:=e9 p hp
    by_cases gp:p=q
    · rw [if_pos gp] at e
      rcases hm with g | g
      · exact Or.inl (e.trans g)
      · exact Or.inr (e.trans g)
    · rw [if_neg gp] at e c'
      rcases h.md p hp c' with g | g
      · exact Or.inl (e.trans g)
      · exact Or.inr (e.trans g)
set_option maxRecDepth 1000000 in
set_option maxHeartbeats 20000000 in
theorem saW {q:Nat} (hq4:q < 4) (h:DV s A) (h9:1≤(s 9).toInt) (hq:∀ A',DV s A'→KP A A'→Q none (put (b+1) pre s A' post)):M18 0 [.val (.ref (b+1)),.val (.int (nI q)),.unset,.unset,.unset] [] (put (b+1) pre s A post) Q:=by
  have c1:(nI q < 0)=False:=nnF (by omega)
  have c2:=g3F hq4
  simp [c1,c2,nI_x64,k18_0,k18_1,m18_93,k18_2,k18_3,ks,k2_0,ks]
  refine saA hq4 A (fun l4 A1 o4 h1 => ?_) 64 0 _ A (by omega) okS_u (AF_r h.ln)
  simp [k18_0,m18_18,k18_1,k18_2,k18_3,ks]
  refine saB hq4 A (fun l4 A2 o4 h2 => ?_) 4 0 _ A1 (by omega) o4 h1
  have q1:=in12 h2.1 (i:=q) hq4
  have q2:=in11 h2.1 (i:=q) hq4
  have q3:=in7 h2.1 (i:=q) hq4
  have q4:=in10 h2.1 (i:=q) hq4
  have e7:=h2.2 7 (by omega)
  have e8:=h2.2 8 (by omega)
  have e9:=h2.2 9 (by omega)
  have e11:=h2.2 11 (by omega)
  have K:KP A A2:=fun j hj => h2.2 j (by omega)
  by_cases c3:getA (A2 7) (nI q)=0
  · simp [q1,q2,q3,q4,c3,k18_0,m18_18,k18_1,m18_93,k18_2,k18_3,ks]
    refine hq _ (h.st hq4 (LN_ou (LN_ou (LN_ou (LN_ou h2.1 (sl h2.1)) (sl h2.1)) (sl h2.1)) (sl h2.1)) (Or.inr ⟨?_,?_⟩) ?_ ?_ ?_ h9) (KP_o (KP_o (KP_o (KP_o K (by decide)) (by decide)) (by decide)) (by decide))
    · rw [← e7]; exact c3
    · rw [← e7]; rfl
    · exact e8
    · exact e9
    · rw [← e11]; rfl
  · simp [q1,q2,q3,q4,c3,k18_0,m18_18,k18_1,m18_93,k18_2,k18_3,ks]
    refine hq _ (h.st hq4 (LN_ou (LN_ou (LN_ou h2.1 (sl h2.1)) (sl h2.1)) (sl h2.1)) (Or.inl ?_) ?_ ?_ ?_ h9) (KP_o (KP_o (KP_o K (by decide)) (by decide)) (by decide))
    · exact e7
    · exact e8
    · exact e9
    · rw [← e11]; rfl
theorem coW {q:Nat} (hq4:q < 4) (h:DV s A) (hq:∀ v s' A',DV s' A'→KP A A'→Q (some (.int v)) (put (b+1) pre s' A' post)):M8 0 [.val (.ref (b+1)),.val (.int (nI q)),.unset] [] (put (b+1) pre s A post) Q:=by
  have c1:(nI q < 0)=False:=nnF (by omega)
  have c2:=g3F hq4
  simp [c1,c2,k8_0,ks,k9_0,k9_1,ks,k2_0,ks]
  refine paW h.ln (fun v s1 A1 h1 g1 => ?_)
  have d1:DV s1 A1:=h.fr h1.ln (fun j hj => h1.fa j (by omega)) (fun i hi => h1.fs i (by omega))
  have K:KP A A1:=fun j hj => h1.fa j (by omega)
  by_cases z:v=0
  · simp [z,k8_0,ks,k9_0,k9_1,ks]; exact hq _ _ _ (d1.w (by decide)) K
  by_cases c3:4 < s1 9
  · simp [z,c3,k8_0,ks,k9_0,k9_1,ks]; exact hq _ _ _ (d1.w (by decide)) K
  by_cases c4:6 < s1 11
  · simp [z,c3,c4,k8_0,ks,k9_0,k9_1,ks]; exact hq _ _ _ (d1.w (by decide)) K
  simp [z,c3,c4,k8_0,ks,k9_0,k9_1,ks]
  refine saW hq4 d1 (g1.resolve_left z) (fun A2 d2 K2 => ?_)
  simp [k8_0,ks,k9_0,k9_1,ks]
  exact hq _ _ _ (d2.w (by decide)) (KP_t K K2)
theorem atL {x:Int32} (h:LN A) (hq0:(∀ p,p < 4→getA (A 7) (nI p)=2→getA (A 8) (nI p) ≠ x)→Q (some (.int (-1))) (put (b+1) pre s A post)) (hq1:∀ p,p < 4→getA (A 7) (nI p)=2→getA (A 8) (nI p)=x→Q (some (.int (nI p))) (put (b+1) pre s A post)):∀ (r i:Nat),i+r=4→(∀ p,p < i→getA (A 7) (nI p)=2→getA (A 8) (nI p) ≠ x)→M28 2 [.val (.ref (b+1)),.val (.int (x)),.val (.int (nI i))] [] (put (b+1) pre s A post) Q:=by
  intro r
  induction r with
  | zero =>
    intro i e hi
    have c1:(nI i < 4)=False:=lF (c:=4) (by omega) (by omega)
    rw [m28_2]
    simp [c1,m28_0,k28_0,ks]
    exact hq0 (fun p hp => hi p (by omega))
  | succ r ih =>
    intro i e hi
    have c1:(nI i < 4)=True:=lT (c:=4) (by omega) (by decide)
    have q1:=in7 h (i:=i) (by omega)
    have q2:=in8 h (i:=i) (by omega)
    rw [m28_2]
    by_cases c2:getA (A 7) (nI i)=2
    · by_cases c3:getA (A 8) (nI i)=x
      · simp [c1,c2,c3,q1,q2,m28_0,k28_0,ks]
        exact hq1 i (by omega) c2 c3
      · simp [c1,c2,c3,q1,q2,nI_1,m28_0,k28_0,ks]
        exact ih (i+1) (by omega) (fun p hp => by rcases Nat.lt_succ_iff_lt_or_eq.mp hp with g | rfl; exact hi p g; exact fun _ => c3)
    · simp [c1,c2,q1,q2,nI_1,m28_0,k28_0,ks]
      exact ih (i+1) (by omega) (fun p hp => by rcases Nat.lt_succ_iff_lt_or_eq.mp hp with g | rfl; exact hi p g; exact fun g => absurd g c2)
theorem atW {x:Int32} (h:LN A) (hq0:(∀ p,p < 4→getA (A 7) (nI p)=2→getA (A 8) (nI p) ≠ x)→Q (some (.int (-1))) (put (b+1) pre s A post)) (hq1:∀ p,p < 4→getA (A 7) (nI p)=2→getA (A 8) (nI p)=x→Q (some (.int (nI p))) (put (b+1) pre s A post)):M28 0 [.val (.ref (b+1)),.val (.int (x)),.unset] [] (put (b+1) pre s A post) Q:=by
  simp [m28_0,k28_0,ks]
  exact atL h hq0 hq1 4 0 (by omega) (fun p hp => absurd hp (by omega))
theorem unW {q:Nat} (hq4:q < 4) (h:DV s A) (hq:∀ v s' A',DV s' A'→KP A A'→Q (some (.int v)) (put (b+1) pre s' A' post)):M35 0 [.val (.ref (b+1)),.val (.int (nI q))] [] (put (b+1) pre s A post) Q:=by
  have c1:(nI q < 0)=False:=nnF (by omega)
  have c2:=g3F hq4
  have q1:=in7 h.ln (i:=q) hq4
  by_cases c3:getA (A 7) (nI q)=2
  · simp [c1,c2,q1,c3,k35_0,ks,k2_0,ks]
    have S:∀ p,p < 4→getA (setA (A 7) (nI q) 1) (nI p)=2→getA (A 7) (nI p)=2:=by
      intro p hp
      rw [g4 (ln7 h.ln) hp hq4]
      split
      · intro c; exact absurd c (by decide)
      · exact id
    refine hq _ _ _ ⟨LN_set h.ln,h.pc,fun p r hp hr a c d => h.uq p r hp hr (S p hp a) (S r hr c) d,fun p hp c => h.ex p hp ?_,fun p hp c => h.md p hp (S p hp c),h.fh,h.cp⟩ (KP_o KP_r (by decide))
    intro e
    apply c
    show getA (setA (A 7) (nI q) 1) (nI p)=0
    rw [g4 (ln7 h.ln) hp hq4]
    split
    · rename_i g; rw [g,c3] at e; exact absurd e (by decide)
    · exact e
  · simp [c1,c2,q1,c3,k35_0,ks,k2_0,ks]
    exact hq _ _ _ h KP_r
theorem isW {q:Nat}{x m:Int32} (hq4:q < 4) (h:DV s A) (hq:∀ v s' A',DV s' A'→KP A A'→Q (some (.int v)) (put (b+1) pre s' A' post)):M6 0 [.val (.ref (b+1)),.val (.int (nI q)),.val (.int (x)),.val (.int (m)),.unset] [] (put (b+1) pre s A post) Q:=by
  have c1:(nI q < 0)=False:=nnF (by omega)
  have c2:=g3F hq4
  have q1:=in7 h.ln (i:=q) hq4
  have q2:=in8 h.ln (i:=q) hq4
  have q3:=in9 h.ln (i:=q) hq4
  have q4:=in10 h.ln (i:=q) hq4
  by_cases c3:getA (A 7) (nI q)=0
  · simp [c1,c2,q1,c3,k6_0,k6_1,ks,k2_0,ks]; exact hq _ _ _ h KP_r
  by_cases c4:x < 0
  · simp [c1,c2,q1,c3,c4,k6_0,k6_1,ks,k2_0,ks]; exact hq _ _ _ h KP_r
  by_cases c5:31 < x
  · simp [c1,c2,q1,c3,c4,c5,k6_0,k6_1,ks,k2_0,ks]; exact hq _ _ _ h KP_r
  have T:(m=0 ∨ m=1)→M6 47 [.val (.ref (b+1)),.val (.int (nI q)),.val (.int (x)),.val (.int (m)),.unset] [] (put (b+1) pre s A post) Q:=by
    intro hm
    have F:∀ w:Int32,(∀ p,p < 4→getA (A 7) (nI p)=2→getA (A 8) (nI p)=x→p=q)→M6 67 [.val (.ref (b+1)),.val (.int (nI q)),.val (.int (x)),.val (.int (m)),.val (.int (w))] [] (put (b+1) pre s A post) Q:=by
      intro w hu
      simp [q1,q2,q3,q4,k6_0,k6_1,ks]
      exact hq _ _ _ (h.ins hq4 c3 hu hm) (KP_o (KP_o (KP_o (KP_o KP_r (by decide)) (by decide)) (by decide)) (by decide))
    simp [k6_0,m6_45,m6_46,m6_47,m6_49,m6_52u,m6_54,m6_59,m6_65,m6_66,m6_74,m6_81,m6_88,m6_95,m6_96,ks]
    refine atW h.ln (fun g => ?_) (fun p hp g1 g2 => ?_)
    · simp [k6_0,m6_45,m6_46,m6_47,m6_49,m6_52u,m6_54,m6_59,m6_65,m6_66,m6_74,m6_81,m6_88,m6_95,m6_96,ks]
      exact F _ (fun p hp a c => absurd c (g p hp a))
    · have n:(nI p < 0)=False:=nnF (by omega)
      by_cases e:p=q
      · subst e
        simp [n,k6_0,m6_45,m6_46,m6_47,m6_49,m6_52u,m6_54,m6_59,m6_65,m6_66,m6_74,m6_81,m6_88,m6_95,m6_96,ks]
        exact F _ (fun r hr a c => h.uq r p hr hp a g1 (c.trans g2.symm))
      · have e':(nI p=nI q)=False:=eF e (by omega) (by omega)
        simp [n,e',k6_0,m6_45,m6_46,m6_47,m6_49,m6_52u,m6_54,m6_59,m6_65,m6_66,m6_74,m6_81,m6_88,m6_95,m6_96,ks]
        exact hq _ _ _ h KP_r
  by_cases c6:m=0
  · simp [c1,c2,q1,c3,c4,c5,c6,k6_0,m6_45,m6_46,m6_49,m6_52u,m6_54,m6_59,m6_65,m6_66,m6_67,m6_74,m6_81,m6_88,m6_95,m6_96,ks,k2_0,ks]; rw [← c6]; exact T (Or.inl c6)
  by_cases c7:m=1
  · simp [c1,c2,q1,c3,c4,c5,c7,k6_0,m6_45,m6_46,m6_49,m6_52u,m6_54,m6_59,m6_65,m6_66,m6_67,m6_74,m6_81,m6_88,m6_95,m6_96,ks,k2_0,ks]; rw [← c7]; exact T (Or.inr c7)
  · simp [c1,c2,q1,c3,c4,c5,c6,c7,k6_0,k6_1,ks,k2_0,ks]; exact hq _ _ _ h KP_r
end Slots
section Sets
variable {b:Nat}{pre post:AHeap}{Q:Option Value→AHeap→Prop}{s s':Nat→Int32}{A A':Nat→List Int32}
set_option maxRecDepth 1000000 in
set_option maxHeartbeats 20000000 in
theorem smW {r v:Int32} (h:DV s A) (hq:∀ v s' A',DV s' A'→KP A A'→Q (some (.int v)) (put (b+1) pre s' A' post)):M27 0 [.val (.ref (b+1)),.val (.int (r)),.val (.int (v))] [] (put (b+1) pre s A post) Q:=by
  by_cases c1:r < 0
  · simp [c1,k27_0,ks,k2_0,ks]; exact hq _ _ _ h KP_r
  by_cases c2:31 < r
  · simp [c1,c2,k27_0,ks,k2_0,ks]; exact hq _ _ _ h KP_r
  have a1:=nlti c1
  have a2:=nlti c2
  rw [i_0] at a1
  rw [j_31] at a2
  have q1:=ib' (x:=r) (ln1 h.ln) (by omega) (by omega)
  simp [c1,c2,q1,k27_0,ks,k2_0,ks]; exact hq _ _ _ (h.o (by decide) (sl h.ln)) (KP_o KP_r (by decide))
theorem srW {r v:Int32} (h:DV s A) (hq:∀ v s' A',DV s' A'→KP A A'→Q (some (.int v)) (put (b+1) pre s' A' post)):M1 0 [.val (.ref (b+1)),.val (.int (r)),.val (.int (v))] [] (put (b+1) pre s A post) Q:=by
  have T:M1 20 [.val (.ref (b+1)),.val (.int (r)),.val (.int (v))] [] (put (b+1) pre s A post) Q:=by
    by_cases c3:r=8
    · by_cases c1:v < 0
      · simp [c3,c1,k1_0,k1_1,ks,k2_0,ks]; exact hq _ _ _ h KP_r
      by_cases c2:31 < v
      · simp [c3,c1,c2,k1_0,k1_1,ks,k2_0,ks]; exact hq _ _ _ h KP_r
      have a1:=nlti c1
      have a2:=nlti c2
      rw [i_0] at a1
      rw [j_31] at a2
      obtain ⟨k,hk,e⟩:=rgN (x:=v) (n:=32) (by omega) (by omega)
      simp [c3,c1,c2,k1_0,k1_1,ks,k2_0,ks]
      rw [e]
      exact hq _ _ _ (((h.p hk).w (by decide)).w (by decide)) KP_r
    · simp [c3,k1_0,k1_1,ks]; exact hq _ _ _ h KP_r
  by_cases c1:r < 0
  · simp [c1,m1_0,m1_5,m1_8,m1_11,m1_18,m1_19,m1_26,m1_27,m1_28,m1_33,m1_36,m1_39,m1_40,m1_41,m1_46,k1_1,ks,k2_0,ks]; exact T
  by_cases c2:7 < r
  · simp [c1,c2,m1_0,m1_5,m1_8,m1_11,m1_18,m1_19,m1_26,m1_27,m1_28,m1_33,m1_36,m1_39,m1_40,m1_41,m1_46,k1_1,ks,k2_0,ks]; exact T
  have a1:=nlti c1
  have a2:=nlti c2
  rw [i_0] at a1
  rw [show (7:Int32).toInt=7 from rfl] at a2
  have q1:=ib' (x:=r) (ln0 h.ln) (by omega) (by omega)
  simp [c1,c2,q1,k1_0,k1_1,ks,k2_0,ks]; exact hq _ _ _ (h.o (by decide) (sl h.ln)) (KP_o KP_r (by decide))
theorem tkW {k w:Int32} (h:DV s A) (hq:∀ v s' A',DV s' A'→KP A A'→Q (some (.int v)) (put (b+1) pre s' A' post)):M7 0 [.val (.ref (b+1)),.val (.int (k)),.val (.int (w))] [] (put (b+1) pre s A post) Q:=by
  by_cases c1:s 7 < 0
  · simp [c1,k7_0,k7_1,ks]; exact hq _ _ _ h KP_r
  by_cases c2:s 7 < 32
  · by_cases c3:k < 0
    · simp [c1,c2,c3,k7_0,k7_1,ks,k2_0,ks]; exact hq _ _ _ h KP_r
    by_cases c4:20 < k
    · simp [c1,c2,c3,c4,k7_0,k7_1,ks,k2_0,ks]; exact hq _ _ _ h KP_r
    have q1:=ib (n:=32) (ln5 h.ln) c1 c2 (by decide)
    have q2:=ib (n:=32) (ln6 h.ln) c1 c2 (by decide)
    have E:∀ x,DV (ou s 7 (s 7+1)) (ou (ou A 5 (setA (A 5) (s 7) k)) 6 (setA (A 6) (s 7) x))∧KP A (ou (ou A 5 (setA (A 5) (s 7) k)) 6 (setA (A 6) (s 7) x)):=fun x => ⟨((h.o (by decide) (sl h.ln)).o (by decide) (sl h.ln)).w (by decide),KP_o (KP_o KP_r (by decide)) (by decide)⟩
    have T:M7 49 [.val (.ref (b+1)),.val (.int (k)),.val (.int (w))] [] (put (b+1) pre s A post) Q:=by
      by_cases c5:k=0
      · have E':=E w
        rw [c5] at E'
        simp [c5,q1,q2,k7_0,k7_1,ks]; exact hq _ _ _ E'.1 E'.2
      by_cases c6:k=1
      · have E':=E w
        rw [c6] at E'
        simp [c6,q1,q2,k7_0,k7_1,ks]; exact hq _ _ _ E'.1 E'.2
      · simp [c5,c6,q1,q2,k7_0,k7_1,ks]; exact hq _ _ _ (E 0).1 (E 0).2
    by_cases c5:k=1
    · rw [c5] at T
      by_cases c6:w < 0
      · simp [c1,c2,c5,c6,k7_0,k7_1,ks,k2_0,ks]; exact hq _ _ _ h KP_r
      by_cases c7:7 < w
      · simp [c1,c2,c5,c6,c7,k7_0,k7_1,ks,k2_0,ks]; exact hq _ _ _ h KP_r
      · simp [c1,c2,c5,c6,c7,m7_0,m7_7,m7_16,m7_17,m7_18,m7_23,m7_26,m7_29,m7_30,m7_31,m7_36,m7_41,m7_44,m7_47,m7_48,k7_1,ks,k2_0,ks]; exact T
    · simp [c1,c2,c3,c4,c5,m7_0,m7_7,m7_16,m7_17,m7_18,m7_23,m7_26,m7_29,m7_30,m7_31,m7_36,m7_41,m7_44,m7_47,m7_48,k7_1,ks,k2_0,ks]; exact T
  · simp [c1,c2,k7_0,k7_1,ks]; exact hq _ _ _ h KP_r
set_option maxRecDepth 1000000 in
set_option maxHeartbeats 20000000 in
theorem siX (B:Nat→List Int32) (x op a c:Int32):∃ L:Nat→List Int32,∀ (b:Nat) (pre post:AHeap) (Q:Option Value→AHeap→Prop) (s:Nat→Int32) (A:Nat→List Int32),LN A→KP B A→(∀ v A',LN A'→(∀ j,¬ (2≤j∧j≤4)→A' j=A j)→(∀ j,2≤j∧j≤4→A' j=L j)→Q (some (.int v)) (put (b+1) pre s A' post))→M3 0 [.val (.ref (b+1)),.val (.int (x)),.val (.int (op)),.val (.int (a)),.val (.int (c))] [] (put (b+1) pre s A post) Q:=by
  have N:(∃ v:Int32,∀ (b:Nat) (pre post:AHeap) (Q:Option Value→AHeap→Prop) (s:Nat→Int32) (A:Nat→List Int32),LN A→Q (some (.int v)) (put (b+1) pre s A post)→M3 0 [.val (.ref (b+1)),.val (.int (x)),.val (.int (op)),.val (.int (a)),.val (.int (c))] [] (put (b+1) pre s A post) Q)→∃ L:Nat→List Int32,∀ (b:Nat) (pre post:AHeap) (Q:Option Value→AHeap→Prop) (s:Nat→Int32) (A:Nat→List Int32),LN A→KP B A→(∀ v A',LN A'→(∀ j,¬ (2≤j∧j≤4)→A' j=A j)→(∀ j,2≤j∧j≤4→A' j=L j)→Q (some (.int v)) (put (b+1) pre s A' post))→M3 0 [.val (.ref (b+1)),.val (.int (x)),.val (.int (op)),.val (.int (a)),.val (.int (c))] [] (put (b+1) pre s A post) Q:=by
    rintro ⟨v,hv⟩
    exact ⟨B,fun b pre post Q s A h k hq => hv b pre post Q s A h (hq v A h (fun _ _ => rfl) k)⟩
  by_cases c1:x < 0
  · exact N ⟨0,fun b pre post Q s A h hq => by simp [c1,k3_0,ks,k4_0,k4_1,ks,k2_0,ks]; exact hq⟩
  by_cases c2:31 < x
  · exact N ⟨0,fun b pre post Q s A h hq => by simp [c1,c2,k3_0,ks,k4_0,k4_1,ks,k2_0,ks]; exact hq⟩
  by_cases c3:op < 0
  · exact N ⟨0,fun b pre post Q s A h hq => by simp [c1,c2,c3,k3_0,ks,k4_0,k4_1,ks,k2_0,ks]; exact hq⟩
  by_cases c4:7 < op
  · exact N ⟨0,fun b pre post Q s A h hq => by simp [c1,c2,c3,c4,k3_0,ks,k4_0,k4_1,ks,k2_0,ks]; exact hq⟩
  have a1:=nlti c1
  have a2:=nlti c2
  rw [i_0] at a1
  rw [j_31] at a2
  have Y:∀ (u v w:Int32),(∃ r:Int32,∀ (b:Nat) (pre post:AHeap) (Q:Option Value→AHeap→Prop) (s:Nat→Int32) (A:Nat→List Int32),inB x (A 2)→inB x (A 3)→inB x (A 4)→Q (some (.int r)) (put (b+1) pre s (ou (ou (ou A 2 (setA (A 2) x u)) 3 (setA (A 3) x v)) 4 (setA (A 4) x w)) post)→M3 0 [.val (.ref (b+1)),.val (.int (x)),.val (.int (op)),.val (.int (a)),.val (.int (c))] [] (put (b+1) pre s A post) Q)→∃ L:Nat→List Int32,∀ (b:Nat) (pre post:AHeap) (Q:Option Value→AHeap→Prop) (s:Nat→Int32) (A:Nat→List Int32),LN A→KP B A→(∀ v A',LN A'→(∀ j,¬ (2≤j∧j≤4)→A' j=A j)→(∀ j,2≤j∧j≤4→A' j=L j)→Q (some (.int v)) (put (b+1) pre s A' post))→M3 0 [.val (.ref (b+1)),.val (.int (x)),.val (.int (op)),.val (.int (a)),.val (.int (c))] [] (put (b+1) pre s A post) Q:=by
    rintro u v w ⟨r,hr⟩
    refine ⟨ou (ou (ou B 2 (setA (B 2) x u)) 3 (setA (B 3) x v)) 4 (setA (B 4) x w),fun b pre post Q s A h k hq => hr b pre post Q s A (ib' (ln2 h) (by omega) (by omega)) (ib' (ln3 h) (by omega) (by omega)) (ib' (ln4 h) (by omega) (by omega)) (hq r _ (LN_ou (LN_ou (LN_ou h (sl h)) (sl h)) (sl h)) (fun j hj => by rw [ou_ne (by omega),ou_ne (by omega),ou_ne (by omega)]) (fun j hj => ?_))⟩
    rw [← k 2 (by omega),← k 3 (by omega),← k 4 (by omega)]
    rcases (by omega:j=2 ∨ j=3 ∨ j=4) with rfl | rfl | rfl <;> rfl
  by_cases c5:op=0
  · exact Y 0 0 0 ⟨1,fun b pre post Q s A q2 q3 q4 hq => by simp [c1,c2,c5,q2,q3,q4,k3_0,ks,k4_0,k4_1,ks,k2_0,ks]; exact hq⟩
  by_cases c6:a < 0
  · exact N ⟨0,fun b pre post Q s A h hq => by simp [c1,c2,c3,c4,c5,c6,k3_0,ks,k4_0,k4_1,ks,k2_0,ks]; exact hq⟩
  by_cases c7:7 < a
  · exact N ⟨0,fun b pre post Q s A h hq => by simp [c1,c2,c3,c4,c5,c6,c7,k3_0,ks,k4_0,k4_1,ks,k2_0,ks]; exact hq⟩
  have Z:(∃ r:Int32,∀ (b:Nat) (pre post:AHeap) (Q:Option Value→AHeap→Prop) (s:Nat→Int32) (A:Nat→List Int32),Q (some (.int r)) (put (b+1) pre s A post)→M5 0 [.val (.ref (b+1)),.val (.int (op)),.val (.int (c))] [] (put (b+1) pre s A post) Q):=by
    have Z1:(∃ r:Int32,∀ (b:Nat) (pre post:AHeap) (Q:Option Value→AHeap→Prop) (s:Nat→Int32) (A:Nat→List Int32),Q (some (.int r)) (put (b+1) pre s A post)→M5 21 [.val (.ref (b+1)),.val (.int (op)),.val (.int (c))] [] (put (b+1) pre s A post) Q):=by
      by_cases g1:c < 0
      · exact ⟨_,fun b pre post Q s A hq => by simp [g1,k5_0,ks,k2_0,ks]; exact hq⟩
      by_cases g2:7 < c
      · exact ⟨_,fun b pre post Q s A hq => by simp [g1,g2,k5_0,ks,k2_0,ks]; exact hq⟩
      · exact ⟨_,fun b pre post Q s A hq => by simp [g1,g2,k5_0,ks,k2_0,ks]; exact hq⟩
    obtain ⟨r1,h1⟩:=Z1
    by_cases e2:op=2
    · rw [e2] at h1 ⊢; exact ⟨r1,fun b pre post Q s A hq => by simp [m5_0,m5_5,m5_10,m5_15,m5_26,m5_29,m5_30,m5_36,m5_41,m5_44,m5_45,m5_46,ks]; exact h1 _ _ _ _ _ _ hq⟩
    by_cases e3:op=3
    · rw [e3] at h1 ⊢; exact ⟨r1,fun b pre post Q s A hq => by simp [m5_0,m5_5,m5_10,m5_15,m5_26,m5_29,m5_30,m5_36,m5_41,m5_44,m5_45,m5_46,ks]; exact h1 _ _ _ _ _ _ hq⟩
    by_cases e5:op=5
    · rw [e5] at h1 ⊢; exact ⟨r1,fun b pre post Q s A hq => by simp [m5_0,m5_5,m5_10,m5_15,m5_26,m5_29,m5_30,m5_36,m5_41,m5_44,m5_45,m5_46,ks]; exact h1 _ _ _ _ _ _ hq⟩
    by_cases e6:op=6
    · rw [e6] at h1 ⊢; exact ⟨r1,fun b pre post Q s A hq => by simp [m5_0,m5_5,m5_10,m5_15,m5_26,m5_29,m5_30,m5_36,m5_41,m5_44,m5_45,m5_46,ks]; exact h1 _ _ _ _ _ _ hq⟩
    by_cases e7:op=7
    · by_cases g1:c < 0
      · exact ⟨_,fun b pre post Q s A hq => by simp [e7,g1,k5_0,ks,k2_0,ks]; exact hq⟩
      by_cases g2:31 < c
      · exact ⟨_,fun b pre post Q s A hq => by simp [e7,g1,g2,k5_0,ks,k2_0,ks]; exact hq⟩
      · exact ⟨_,fun b pre post Q s A hq => by simp [e7,g1,g2,k5_0,ks,k2_0,ks]; exact hq⟩
    · exact ⟨1,fun b pre post Q s A hq => by simp [e2,e3,e5,e6,e7,k5_0,ks]; exact hq⟩
  obtain ⟨r,hr⟩:=Z
  by_cases z:nar .boolean r=0
  · exact N ⟨0,fun b pre post Q s A h hq => by
      simp [c1,c2,c3,c4,c5,c6,c7,k3_0,ks,k4_0,k4_1,ks,k2_0,ks]
      refine hr _ _ _ _ _ _ ?_
      simp [z,k3_0,ks,k4_0,k4_1,ks]
      exact hq⟩
  · exact Y op a c ⟨1,fun b pre post Q s A q2 q3 q4 hq => by
      simp [c1,c2,c3,c4,c5,c6,c7,k3_0,ks,k4_0,k4_1,ks,k2_0,ks]
      refine hr _ _ _ _ _ _ ?_
      simp [z,c5,q2,q3,q4,k3_0,ks,k4_0,k4_1,ks]
      exact hq⟩
end Sets
def EF (s:Nat→Int32) (A:Nat→List Int32) (s':Nat→Int32) (A':Nat→List Int32):Prop:=LN A'∧(∀ i,i ≠ 15→i ≠ 16→s' i=s i)∧(∀ j,j ≠ 24→A' j=A j)
def STK (sp:Nat) (st:Nat→Int32) (s:Nat→Int32) (A:Nat→List Int32):Prop:=s 15=nI sp∧sp≤40∧∀ i,i < sp→getA (A 24) (nI i)=st i
section Eva
variable {s s' s'':Nat→Int32}{A A' A'':Nat→List Int32}
theorem EF_r (h:LN A):EF s A s A:=⟨h,fun _ _ _ => rfl,fun _ _ => rfl⟩
theorem EF_t (h:EF s A s' A') (g:EF s' A' s'' A''):EF s A s'' A'':=⟨g.1,fun i a c => (g.2.1 i a c).trans (h.2.1 i a c),fun j a => (g.2.2 j a).trans (h.2.2 j a)⟩
theorem EF_s {i:Nat}{v:Int32} (h:EF s A s' A') (hi:i=15 ∨ i=16):EF s A (ou s' i v) A':=⟨h.1,fun k a c => by rw [os_ne (by omega)]; exact h.2.1 k a c,h.2.2⟩
theorem EF_a {l:List Int32} (h:EF s A s' A') (hl:l.length=(A0 24).length):EF s A s' (ou A' 24 l):=⟨LN_ou h.1 hl,h.2.1,fun j a => by rw [ou_ne a]; exact h.2.2 j a⟩
theorem STK.e {sp:Nat}{st:Nat→Int32} (h:STK sp st s A) (e:s' 15=s 15):STK sp st s' A:=⟨e.trans h.1,h.2⟩
set_option maxRecDepth 1000000 in
set_option maxHeartbeats 20000000 in
theorem puX (sp:Nat) (st:Nat→Int32) (v:Int32):∃ (sp':Nat) (st':Nat→Int32),∀ (b:Nat) (pre post:AHeap) (Q:Option Value→AHeap→Prop) (s:Nat→Int32) (A:Nat→List Int32),LN A→STK sp st s A→(∀ s' A',EF s A s' A'→s' 16=s 16→STK sp' st' s' A'→Q none (put (b+1) pre s' A' post))→M44 0 [.val (.ref (b+1)),.val (.int (v))] [] (put (b+1) pre s A post) Q:=by
  by_cases c:sp < 40
  · refine ⟨sp+1,ou st sp v,fun b pre post Q s A h k hq => ?_⟩
    have e:=k.1
    have c1:(nI sp < 0)=False:=nnF (by omega)
    have c2:(nI sp < 40)=True:=lT (c:=40) c (by decide)
    have q1:=in24 h c
    have l:=ln24 h
    simp [e,c1,c2,q1,nI_1,k44_0,ks]
    refine hq _ _ (EF_s (EF_a (EF_r h) (sl h)) (Or.inl rfl)) rfl ⟨rfl,by omega,fun i hi => ?_⟩
    show getA (setA (A 24) (nI sp) v) (nI i)=_
    rw [cf_set (by omega) (by omega) (by omega),ou_a]
    split
    · rfl
    · exact k.2.2 i (by omega)
  · refine ⟨sp,st,fun b pre post Q s A h k hq => ?_⟩
    have e:=k.1
    have:=k.2.1
    have c1:(nI sp < 0)=False:=nnF (by omega)
    have c2:(nI sp < 40)=False:=lF (c:=40) (by omega) (by omega)
    simp [e,c1,c2,k44_0,ks]
    exact hq _ _ (EF_r h) rfl k
theorem ppX (sp:Nat) (st:Nat→Int32):∃ (v:Int32) (sp':Nat),∀ (b:Nat) (pre post:AHeap) (Q:Option Value→AHeap→Prop) (s:Nat→Int32) (A:Nat→List Int32),LN A→STK sp st s A→(∀ s' A',EF s A s' A'→s' 16=s 16→STK sp' st s' A'→Q (some (.int v)) (put (b+1) pre s' A' post))→M46 0 [.val (.ref (b+1))] [] (put (b+1) pre s A post) Q:=by
  by_cases c:0 < sp
  · refine ⟨st (sp - 1),sp - 1,fun b pre post Q s A h k hq => ?_⟩
    have e:=k.1
    have:=k.2.1
    have c1:(0 < nI sp)=True:=lT (a:=0) c (by omega)
    have c2:(40 < nI sp)=False:=lF (a:=40) (by omega) (by decide)
    have q1:=in24 h (i:=sp - 1) (by omega)
    have e1:nI sp - 1=nI (sp - 1):=nI_sub (c:=1) (by omega)
    have v1:=k.2.2 (sp - 1) (by omega)
    simp [e,c1,c2,e1,q1,v1,k46_0,ks]
    exact hq _ _ (EF_s (EF_r h) (Or.inl rfl)) rfl ⟨rfl,by omega,fun i hi => k.2.2 i (by omega)⟩
  · refine ⟨0,sp,fun b pre post Q s A h k hq => ?_⟩
    have e:=k.1
    have c1:(0 < nI sp)=False:=lF (a:=0) (by omega) (by omega)
    simp [e,c1,k46_0,ks]
    exact hq _ _ (EF_r h) rfl k
theorem toX (sp:Nat) (st:Nat→Int32):∃ (v:Int32),∀ (b:Nat) (pre post:AHeap) (Q:Option Value→AHeap→Prop) (s:Nat→Int32) (A:Nat→List Int32),LN A→STK sp st s A→Q (some (.int v)) (put (b+1) pre s A post)→M48 0 [.val (.ref (b+1))] [] (put (b+1) pre s A post) Q:=by
  by_cases c:0 < sp
  · refine ⟨st (sp - 1),fun b pre post Q s A h k hq => ?_⟩
    have e:=k.1
    have:=k.2.1
    have c1:(0 < nI sp)=True:=lT (a:=0) c (by omega)
    have c2:(40 < nI sp)=False:=lF (a:=40) (by omega) (by decide)
    have q1:=in24 h (i:=sp - 1) (by omega)
    have e1:nI sp - 1=nI (sp - 1):=nI_sub (c:=1) (by omega)
    have v1:=k.2.2 (sp - 1) (by omega)
    simp [e,c1,c2,e1,q1,v1,k48_0,ks]
    exact hq
  · refine ⟨0,fun b pre post Q s A h k hq => ?_⟩
    have e:=k.1
    have c1:(0 < nI sp)=False:=lF (a:=0) (by omega) (by omega)
    simp [e,c1,k48_0,ks]
    exact hq
theorem seX (sp:Nat) (st:Nat→Int32) (v:Int32):∃ (st':Nat→Int32),∀ (b:Nat) (pre post:AHeap) (Q:Option Value→AHeap→Prop) (s:Nat→Int32) (A:Nat→List Int32),LN A→STK sp st s A→(∀ s' A',EF s A s' A'→s' 16=s 16→STK sp st' s' A'→Q none (put (b+1) pre s' A' post))→M60 0 [.val (.ref (b+1)),.val (.int (v))] [] (put (b+1) pre s A post) Q:=by
  by_cases c:0 < sp
  · refine ⟨ou st (sp - 1) v,fun b pre post Q s A h k hq => ?_⟩
    have e:=k.1
    have:=k.2.1
    have c1:(0 < nI sp)=True:=lT (a:=0) c (by omega)
    have c2:(40 < nI sp)=False:=lF (a:=40) (by omega) (by decide)
    have q1:=in24 h (i:=sp - 1) (by omega)
    have e1:nI sp - 1=nI (sp - 1):=nI_sub (c:=1) (by omega)
    have l:=ln24 h
    simp [e,c1,c2,e1,q1,k60_0,ks]
    refine hq _ _ (EF_a (EF_r h) (sl h)) rfl ⟨e,by omega,fun i hi => ?_⟩
    show getA (setA (A 24) (nI (sp - 1)) v) (nI i)=_
    rw [cf_set (by omega) (by omega) (by omega),ou_a]
    split
    · rfl
    · exact k.2.2 i (by omega)
  · refine ⟨st,fun b pre post Q s A h k hq => ?_⟩
    have e:=k.1
    have c1:(0 < nI sp)=False:=lF (a:=0) (by omega) (by omega)
    simp [e,c1,k60_0,ks]
    exact hq _ _ (EF_r h) rfl k
theorem auX (B:Nat→List Int32) (op v:Int32):∃ (r e:Int32),∀ (b:Nat) (pre post:AHeap) (Q:Option Value→AHeap→Prop) (s:Nat→Int32) (A:Nat→List Int32),LN A→A 1=B 1→s 16=0→(∀ s',(∀ i,i ≠ 16→s' i=s i)→s' 16=e→Q (some (.int r)) (put (b+1) pre s' A post))→M59 0 [.val (.ref (b+1)),.val (.int (op)),.val (.int (v))] [] (put (b+1) pre s A post) Q:=by
  by_cases c1:op=5
  · exact ⟨_,0,fun b pre post Q s A h k z hq => by simp [c1,k59_0,ks]; exact hq s (fun _ _ => rfl) z⟩
  by_cases c2:op=6
  · by_cases c3:v=0
    · exact ⟨_,0,fun b pre post Q s A h k z hq => by simp [c2,c3,k59_0,ks]; exact hq s (fun _ _ => rfl) z⟩
    · exact ⟨_,0,fun b pre post Q s A h k z hq => by simp [c2,c3,k59_0,ks]; exact hq s (fun _ _ => rfl) z⟩
  by_cases c3:v < 0
  · exact ⟨0,2,fun b pre post Q s A h k z hq => by simp [c1,c2,c3,k59_0,ks,k2_0,ks]; exact hq _ (fun i hi => os_ne hi) rfl⟩
  by_cases c4:31 < v
  · exact ⟨0,2,fun b pre post Q s A h k z hq => by simp [c1,c2,c3,c4,k59_0,ks,k2_0,ks]; exact hq _ (fun i hi => os_ne hi) rfl⟩
  have a1:=nlti c3
  have a2:=nlti c4
  rw [i_0] at a1
  rw [j_31] at a2
  refine ⟨getA (B 1) v,0,fun b pre post Q s A h k z hq => ?_⟩
  have q1:=ib' (x:=v) (ln1 h) (by omega) (by omega)
  simp [c1,c2,c3,c4,q1,k59_0,ks,k2_0,ks]
  rw [k]
  exact hq s (fun _ _ => rfl) z
theorem cmX (op l r:Int32):∃ (v:Int32),∀ (b:Nat) (pre post:AHeap) (Q:Option Value→AHeap→Prop) (s:Nat→Int32) (A:Nat→List Int32),Q (some (.int v)) (put (b+1) pre s A post)→M61 0 [.val (.ref (b+1)),.val (.int (op)),.val (.int (l)),.val (.int (r))] [] (put (b+1) pre s A post) Q:=by
  by_cases g1:l < r <;> by_cases g2:r < l <;> by_cases g3:l=r
  all_goals
    by_cases c1:op=13
    · exact ⟨_,fun b pre post Q s A hq => by simp [c1,g1,g2,g3,k61_0,k61_1,k61_2,ks,k62_0,ks]; exact hq⟩
    by_cases c2:op=14
    · exact ⟨_,fun b pre post Q s A hq => by simp [c2,g1,g2,g3,k61_0,k61_1,k61_2,ks,k62_0,ks]; exact hq⟩
    by_cases c3:op=15
    · exact ⟨_,fun b pre post Q s A hq => by simp [c3,g1,g2,g3,k61_0,k61_1,k61_2,ks,k62_0,ks]; exact hq⟩
    by_cases c4:op=16
    · exact ⟨_,fun b pre post Q s A hq => by simp [c4,g1,g2,g3,k61_0,k61_1,k61_2,ks,k62_0,ks]; exact hq⟩
    by_cases c5:op=17
    · exact ⟨_,fun b pre post Q s A hq => by simp [c5,g1,g2,g3,k61_0,k61_1,k61_2,ks,k62_0,ks]; exact hq⟩
    by_cases c6:op=18
    · exact ⟨_,fun b pre post Q s A hq => by simp [c6,g1,g2,g3,k61_0,k61_1,k61_2,ks,k62_0,ks]; exact hq⟩
    · exact ⟨_,fun b pre post Q s A hq => by simp [c1,c2,c3,c4,c5,c6,k61_0,k61_1,k61_2,ks]; exact hq⟩
theorem abX (op l r:Int32):∃ (v e:Int32),∀ (b:Nat) (pre post:AHeap) (Q:Option Value→AHeap→Prop) (s:Nat→Int32) (A:Nat→List Int32),s 16=0→(∀ s',(∀ i,i ≠ 16→s' i=s i)→s' 16=e→Q (some (.int v)) (put (b+1) pre s' A post))→M47 0 [.val (.ref (b+1)),.val (.int (op)),.val (.int (l)),.val (.int (r))] [] (put (b+1) pre s A post) Q:=by
  by_cases c1:op=8
  · exact ⟨_,0,fun b pre post Q s A z hq => by simp [c1,k47_0,m47_57,ks]; exact hq s (fun _ _ => rfl) z⟩
  by_cases c2:op=11
  · exact ⟨_,0,fun b pre post Q s A z hq => by simp [c2,k47_0,m47_57,ks]; exact hq s (fun _ _ => rfl) z⟩
  by_cases c3:op=12
  · exact ⟨_,0,fun b pre post Q s A z hq => by simp [c3,k47_0,m47_57,ks]; exact hq s (fun _ _ => rfl) z⟩
  by_cases c4:op=9
  · by_cases c5:r=0
    · exact ⟨0,1,fun b pre post Q s A z hq => by simp [c4,c5,k47_0,m47_57,ks,k64_0,ks]; exact hq _ (fun i hi => os_ne hi) rfl⟩
    · exact ⟨_,0,fun b pre post Q s A z hq => by simp [c4,c5,k47_0,m47_57,ks,k64_0,ks]; exact hq s (fun _ _ => rfl) z⟩
  by_cases c6:op=10
  · by_cases c5:r=0
    · exact ⟨0,1,fun b pre post Q s A z hq => by simp [c6,c5,k47_0,m47_57,ks,k64_0,ks]; exact hq _ (fun i hi => os_ne hi) rfl⟩
    · exact ⟨_,0,fun b pre post Q s A z hq => by simp [c6,c5,k47_0,m47_57,ks,k64_0,ks]; exact hq s (fun _ _ => rfl) z⟩
  obtain ⟨v,hv⟩:=cmX op l r
  refine ⟨v,0,fun b pre post Q s A z hq => ?_⟩
  simp [c1,c2,c3,c4,c6,k47_0,m47_57,ks]
  refine hv _ _ _ _ _ _ ?_
  simp [k47_0,m47_57,ks]
  exact hq s (fun _ _ => rfl) z
theorem EF_16 {A:Nat→List Int32}{s s':Nat→Int32} (h:LN A) (e:∀ i,i ≠ 16→s' i=s i):EF s A s' A:=⟨h,fun i _ c => e i c,fun _ _ => rfl⟩
set_option maxRecDepth 1000000 in
set_option maxHeartbeats 20000000 in
theorem esX (B:Nat→List Int32) (op arg at0:Int32) (sp:Nat) (st:Nat→Int32):∃ (at' e:Int32) (sp':Nat) (st':Nat→Int32),∀ (b:Nat) (pre post:AHeap) (Q:Option Value→AHeap→Prop) (s:Nat→Int32) (A:Nat→List Int32),LN A→A 0=B 0→A 1=B 1→s 16=0→STK sp st s A→(∀ s' A',EF s A s' A'→s' 16=e→STK sp' st' s' A'→Q (some (.int at')) (put (b+1) pre s' A' post))→M43 0 [.val (.ref (b+1)),.val (.int (op)),.val (.int (arg)),.val (.int (at0)),.unset] [] (put (b+1) pre s A post) Q:=by
  by_cases c0:op=0
  · obtain ⟨sp1,st1,h1⟩:=puX sp st arg
    refine ⟨at0+1,0,sp1,st1,fun b pre post Q s A h k0 k1 z k hq => ?_⟩
    simp [c0,k43_0,k43_1,k43_2,ks]
    refine h1 _ _ _ _ _ _ h k (fun s' A' f g k' => ?_)
    try simp [k43_0,k43_1,k43_2,ks]
    exact hq _ _ f (g.trans z) k'
  by_cases c1:op=1
  · obtain ⟨sp1,st1,h1⟩:=puX sp st (getA (B 0) (arg &&& 7))
    refine ⟨at0+1,0,sp1,st1,fun b pre post Q s A h k0 k1 z k hq => ?_⟩
    have d:=and_bd arg 7 (by decide)
    have d2:(arg &&& 7).toInt≤7:=d.2
    have q1:=ib' (x:=arg &&& 7) (ln0 h) d.1 (by omega)
    simp [c1,q1,k43_0,k43_1,k43_2,ks]
    rw [k0]
    refine h1 _ _ _ _ _ _ h k (fun s' A' f g k' => ?_)
    try simp [k43_0,k43_1,k43_2,ks]
    exact hq _ _ f (g.trans z) k'
  have SC:(op=19 ∨ op=20)→∃ (at' e:Int32) (sp':Nat) (st':Nat→Int32),∀ (b:Nat) (pre post:AHeap) (Q:Option Value→AHeap→Prop) (s:Nat→Int32) (A:Nat→List Int32),LN A→A 0=B 0→A 1=B 1→s 16=0→STK sp st s A→(∀ s' A',EF s A s' A'→s' 16=e→STK sp' st' s' A'→Q (some (.int at')) (put (b+1) pre s' A' post))→M43 47 [.val (.ref (b+1)),.val (.int (op)),.val (.int (arg)),.val (.int (at0)),.unset] [] (put (b+1) pre s A post) Q:=by
    intro hop
    obtain ⟨v,hv⟩:=toX sp st
    have POP:(¬ (op=19∧v=0))→(¬ (op=20∧v ≠ 0))→∃ (at' e:Int32) (sp':Nat) (st':Nat→Int32),∀ (b:Nat) (pre post:AHeap) (Q:Option Value→AHeap→Prop) (s:Nat→Int32) (A:Nat→List Int32),LN A→A 0=B 0→A 1=B 1→s 16=0→STK sp st s A→(∀ s' A',EF s A s' A'→s' 16=e→STK sp' st' s' A'→Q (some (.int at')) (put (b+1) pre s' A' post))→M43 47 [.val (.ref (b+1)),.val (.int (op)),.val (.int (arg)),.val (.int (at0)),.unset] [] (put (b+1) pre s A post) Q:=by
      intro n1 n2
      obtain ⟨w,sp1,h1⟩:=ppX sp st
      refine ⟨at0+1,0,sp1,st,fun b pre post Q s A h k0 k1 z k hq => ?_⟩
      simp [k43_0,k43_1,k43_2,ks,k57_0,m57_42,m57_45,ks]
      refine hv _ _ _ _ _ _ h k ?_
      rcases hop with e | e <;> by_cases zv:v=0
      · exact absurd ⟨e,zv⟩ n1
      · simp [e,zv,k43_0,k43_1,k43_2,ks,k57_0,m57_42,m57_45,ks]
        refine h1 _ _ _ _ _ _ h k (fun s' A' f g k' => ?_)
        try simp [k43_0,k43_1,k43_2,ks,k57_0,m57_42,m57_45,ks]
        exact hq _ _ f (g.trans z) k'
      · simp [e,zv,k43_0,k43_1,k43_2,ks,k57_0,m57_42,m57_45,ks]
        refine h1 _ _ _ _ _ _ h k (fun s' A' f g k' => ?_)
        try simp [k43_0,k43_1,k43_2,ks,k57_0,m57_42,m57_45,ks]
        exact hq _ _ f (g.trans z) k'
      · exact absurd ⟨e,zv⟩ n2
    by_cases n1:op=19∧v=0
    · refine ⟨arg,0,sp,st,fun b pre post Q s A h k0 k1 z k hq => ?_⟩
      simp [n1.1,k43_0,k43_1,k43_2,ks,k57_0,m57_42,m57_45,ks]
      refine hv _ _ _ _ _ _ h k ?_
      simp [n1.2,k43_0,k43_1,k43_2,ks,k57_0,m57_42,m57_45,ks]
      exact hq _ _ (EF_r h) z k
    by_cases n2:op=20∧v ≠ 0
    · obtain ⟨st1,h1⟩:=seX sp st 1
      refine ⟨arg,0,sp,st1,fun b pre post Q s A h k0 k1 z k hq => ?_⟩
      simp [n2.1,k43_0,k43_1,k43_2,ks,k57_0,m57_42,m57_45,ks]
      refine hv _ _ _ _ _ _ h k ?_
      simp [n2.2,k43_0,k43_1,k43_2,ks,k57_0,m57_42,m57_45,ks]
      refine h1 _ _ _ _ _ _ h k (fun s' A' f g k' => ?_)
      try simp [k43_0,k43_1,k43_2,ks,k57_0,m57_42,m57_45,ks]
      exact hq _ _ f (g.trans z) k'
    exact POP n1 n2
  by_cases c19:op=19
  · obtain ⟨a1,e1,sp1,st1,h1⟩:=SC (Or.inl c19)
    refine ⟨a1,e1,sp1,st1,fun b pre post Q s A h k0 k1 z k hq => ?_⟩
    rw [c19] at h1 ⊢
    simp [m43_0,m43_4,m43_6,m43_9,m43_12,m43_13,m43_18,m43_28,m43_31,m43_34,m43_35,m43_41,m43_51,m43_54,m43_55,k43_1,k43_2,ks]
    exact h1 _ _ _ _ _ _ h k0 k1 z k hq
  by_cases c20:op=20
  · obtain ⟨a1,e1,sp1,st1,h1⟩:=SC (Or.inr c20)
    refine ⟨a1,e1,sp1,st1,fun b pre post Q s A h k0 k1 z k hq => ?_⟩
    rw [c20] at h1 ⊢
    simp [m43_0,m43_4,m43_6,m43_9,m43_12,m43_13,m43_18,m43_28,m43_31,m43_34,m43_35,m43_41,m43_51,m43_54,m43_55,k43_1,k43_2,ks]
    exact h1 _ _ _ _ _ _ h k0 k1 z k hq
  by_cases c21:op=21
  · obtain ⟨v,hv⟩:=toX sp st
    obtain ⟨st1,h1⟩:=seX sp st (if v=0 then 0 else 1)
    refine ⟨at0+1,0,sp,st1,fun b pre post Q s A h k0 k1 z k hq => ?_⟩
    simp [c21,k43_0,k43_1,k43_2,ks]
    refine hv _ _ _ _ _ _ h k ?_
    by_cases zv:v=0
    · rw [if_pos zv] at h1
      simp [zv,k43_0,k43_1,k43_2,ks]
      refine h1 _ _ _ _ _ _ h k (fun s' A' f g k' => ?_)
      try simp [k43_0,k43_1,k43_2,ks]
      exact hq _ _ f (g.trans z) k'
    · rw [if_neg zv] at h1
      simp [zv,k43_0,k43_1,k43_2,ks]
      refine h1 _ _ _ _ _ _ h k (fun s' A' f g k' => ?_)
      try simp [k43_0,k43_1,k43_2,ks]
      exact hq _ _ f (g.trans z) k'
  have UN:(op=5 ∨ op=6 ∨ op=7)→∃ (at' e:Int32) (sp':Nat) (st':Nat→Int32),∀ (b:Nat) (pre post:AHeap) (Q:Option Value→AHeap→Prop) (s:Nat→Int32) (A:Nat→List Int32),LN A→A 0=B 0→A 1=B 1→s 16=0→STK sp st s A→(∀ s' A',EF s A s' A'→s' 16=e→STK sp' st' s' A'→Q (some (.int at')) (put (b+1) pre s' A' post))→M43 0 [.val (.ref (b+1)),.val (.int (op)),.val (.int (arg)),.val (.int (at0)),.unset] [] (put (b+1) pre s A post) Q:=by
    intro hop
    obtain ⟨v,sp1,h1⟩:=ppX sp st
    obtain ⟨r,e,h2⟩:=auX B op v
    obtain ⟨sp3,st3,h3⟩:=puX sp1 st r
    refine ⟨at0+1,e,sp3,st3,fun b pre post Q s A h k0 k1 z k hq => ?_⟩
    have T:M43 93 [.val (.ref (b+1)),.val (.int (op)),.val (.int (arg)),.val (.int (at0)),.unset] [] (put (b+1) pre s A post) Q:=by
      simp [k43_0,k43_1,k43_2,ks,k58_0,ks]
      refine h1 _ _ _ _ _ _ h k (fun s1 A1 f1 g1 j1 => ?_)
      try simp [k43_0,k43_1,k43_2,ks,k58_0,ks]
      refine h2 _ _ _ _ _ _ f1.1 ((f1.2.2 1 (by decide)).trans k1) (g1.trans z) (fun s2 f2 g2 => ?_)
      try simp [k43_0,k43_1,k43_2,ks,k58_0,ks]
      refine h3 _ _ _ _ _ _ f1.1 (j1.e (f2 15 (by decide))) (fun s3 A3 f3 g3 j3 => ?_)
      try simp [k43_0,k43_1,k43_2,ks,k58_0,ks]
      exact hq _ _ (EF_t (EF_t f1 (EF_16 f1.1 f2)) f3) (g3.trans g2) j3
    rcases hop with g | g | g <;> rw [g] at T ⊢ <;> simp [k43_0,m43_61,m43_62,m43_65u,m43_67,m43_73,m43_77,m43_78,m43_81,m43_84,m43_85,m43_87,m43_90,m43_95,m43_98,m43_101,k43_2,ks,k24_0,ks] <;> exact T
  by_cases c5:op=5
  · exact UN (Or.inl c5)
  by_cases c6:op=6
  · exact UN (Or.inr (Or.inl c6))
  by_cases c7:op=7
  · exact UN (Or.inr (Or.inr c7))
  obtain ⟨r,sp1,h1⟩:=ppX sp st
  obtain ⟨l,sp2,h2⟩:=ppX sp1 st
  obtain ⟨v,e,h3⟩:=abX op l r
  obtain ⟨sp4,st4,h4⟩:=puX sp2 st v
  refine ⟨at0+1,e,sp4,st4,fun b pre post Q s A h k0 k1 z k hq => ?_⟩
  simp [c0,c1,c19,c20,c21,c5,c6,c7,k43_0,k43_1,k43_2,ks,k24_0,ks,k45_0,ks]
  refine h1 _ _ _ _ _ _ h k (fun s1 A1 f1 g1 j1 => ?_)
  try simp [k43_0,k43_1,k43_2,ks,k45_0,ks]
  refine h2 _ _ _ _ _ _ f1.1 j1 (fun s2 A2 f2 g2 j2 => ?_)
  try simp [k43_0,k43_1,k43_2,ks,k45_0,ks]
  refine h3 _ _ _ _ _ _ (g2.trans (g1.trans z)) (fun s3 f3 g3 => ?_)
  try simp [k43_0,k43_1,k43_2,ks,k45_0,ks]
  refine h4 _ _ _ _ _ _ f2.1 (j2.e (f3 15 (by decide))) (fun s4 A4 f4 g4 j4 => ?_)
  try simp [k43_0,k43_1,k43_2,ks,k45_0,ks]
  exact hq _ _ (EF_t (EF_t (EF_t f1 f2) (EF_16 f2.1 f3)) f4) (g4.trans g3) j4
def SM (B A:Nat→List Int32):Prop:=A 0=B 0∧A 1=B 1∧A 13=B 13∧A 14=B 14∧A 15=B 15∧A 16=B 16
theorem SM.ef {B:Nat→List Int32} (h:SM B A) (g:EF s A s' A'):SM B A':=⟨(g.2.2 0 (by decide)).trans h.1,(g.2.2 1 (by decide)).trans h.2.1,(g.2.2 13 (by decide)).trans h.2.2.1,(g.2.2 14 (by decide)).trans h.2.2.2.1,(g.2.2 15 (by decide)).trans h.2.2.2.2.1,(g.2.2 16 (by decide)).trans h.2.2.2.2.2⟩
set_option maxRecDepth 1000000 in
set_option maxHeartbeats 20000000 in
theorem evL (B:Nat→List Int32) {q:Nat} (hq4:q < 4) (j en:Int32) (hen:¬ 64 < en):∀ (r n:Nat) (at0:Int32) (sp:Nat) (st:Nat→Int32),n+r=64→∃ (v e:Int32),∀ (b:Nat) (pre post:AHeap) (Q:Option Value→AHeap→Prop) (s:Nat→Int32) (A:Nat→List Int32),LN A→SM B A→s 16=0→STK sp st s A→(∀ s' A',EF s A s' A'→s' 16=e→Q (some (.int v)) (put (b+1) pre s' A' post))→M42 75 [.val (.ref (b+1)),.val (.int (nI q)),.val (.int (j)),.val (.int (nI (q * 64))),.val (.int (at0)),.val (.int (en)),.val (.int (nI n))] [] (put (b+1) pre s A post) Q:=by
  intro r
  induction r with
  | zero =>
    intro n at0 sp st e
    obtain ⟨v,hv⟩:=toX sp st
    refine ⟨v,0,fun b pre post Q s A h m z k hq => ?_⟩
    have c1:(nI n < 64)=False:=lF (c:=64) (by omega) (by omega)
    rw [m42_75]
    simp [c1,k42_0,m42_72,k42_1,ks]
    refine hv _ _ _ _ _ _ h k ?_
    simp [k42_0,m42_72,k42_1,ks]
    exact hq _ _ (EF_r h) z
  | succ r ih =>
    intro n at0 sp st e
    have c1:(nI n < 64)=True:=lT (c:=64) (by omega) (by decide)
    obtain ⟨v,hv⟩:=toX sp st
    by_cases c2:at0 < 0
    · refine ⟨v,0,fun b pre post Q s A h m z k hq => ?_⟩
      rw [m42_75]
      simp [c1,c2,k42_0,m42_72,k42_1,ks]
      refine hv _ _ _ _ _ _ h k ?_
      simp [k42_0,m42_72,k42_1,ks]
      exact hq _ _ (EF_r h) z
    by_cases c3:at0 < en
    · have a2:=nlti c2
      have a3:=lti c3
      have a4:=nlti hen
      rw [i_0] at a2
      rw [j_64] at a4
      obtain ⟨a,ha,rfl⟩:=rgN (x:=at0) (n:=64) (by omega) (by omega)
      obtain ⟨at1,e1,sp1,st1,h1⟩:=esX B (getA (B 13) (nI (q * 64+a))) (getA (B 14) (nI (q * 64+a))) (nI a) sp st
      by_cases ze:e1=0
      · obtain ⟨v2,e2,h2⟩:=ih (n+1) at1 sp1 st1 (by omega)
        refine ⟨v2,e2,fun b pre post Q s A h m z k hq => ?_⟩
        have q1:=in13 h (i:=q * 64+a) (by omega)
        have q2:=in14 h (i:=q * 64+a) (by omega)
        rw [m42_75]
        simp [c1,c2,c3,q1,q2,nI_add,k42_0,m42_72,k42_1,ks]
        rw [m.2.2.1,m.2.2.2.1]
        refine h1 _ _ _ _ _ _ h m.1 m.2.1 z k (fun s' A' f g k' => ?_)
        have g':=g.trans ze
        simp [g',nI_1,k42_0,m42_72,k42_1,ks]
        exact h2 _ _ _ _ _ _ f.1 (m.ef f) g' k' (fun s2 A2 f2 g2 => hq _ _ (EF_t f f2) g2)
      · refine ⟨0,e1,fun b pre post Q s A h m z k hq => ?_⟩
        have q1:=in13 h (i:=q * 64+a) (by omega)
        have q2:=in14 h (i:=q * 64+a) (by omega)
        rw [m42_75]
        simp [c1,c2,c3,q1,q2,nI_add,k42_0,m42_72,k42_1,ks]
        rw [m.2.2.1,m.2.2.2.1]
        refine h1 _ _ _ _ _ _ h m.1 m.2.1 z k (fun s' A' f g k' => ?_)
        have g':¬ s' 16=0:=by rw [g]; exact ze
        simp [g',k42_0,m42_72,k42_1,ks]
        exact hq _ _ f g
    · refine ⟨v,0,fun b pre post Q s A h m z k hq => ?_⟩
      rw [m42_75]
      simp [c1,c2,c3,k42_0,m42_72,k42_1,ks]
      refine hv _ _ _ _ _ _ h k ?_
      simp [k42_0,m42_72,k42_1,ks]
      exact hq _ _ (EF_r h) z
/-- expression j of slot q over the state B: value v, error e -/
def EV (B:Nat→List Int32) (q j:Nat) (v e:Int32):Prop:=∀ (b:Nat) (pre post:AHeap) (Q:Option Value→AHeap→Prop) (s:Nat→Int32) (A:Nat→List Int32),LN A→SM B A→(∀ s' A',EF s A s' A'→s' 16=e→Q (some (.int v)) (put (b+1) pre s' A' post))→M42 0 [.val (.ref (b+1)),.val (.int (nI q)),.val (.int (nI j)),.unset,.unset,.unset,.unset] [] (put (b+1) pre s A post) Q
set_option maxRecDepth 1000000 in
set_option maxHeartbeats 20000000 in
theorem evX (B:Nat→List Int32) {q j:Nat} (hq4:q < 4) (hj4:j < 4):∃ v e,EV B q j v e:=by
  have c1:(nI q < 0)=False:=nnF (by omega)
  have c2:=g3F hq4
  have c3:(nI j < 0)=False:=nnF (by omega)
  have c4:=g3F hj4
  have SS:∀ (s:Nat→Int32) (A:Nat→List Int32),STK 0 (fun _ => 0) (ou (ou s 16 0) 15 0) A:=fun s A => ⟨rfl,by omega,fun i hi => absurd hi (by omega)⟩
  by_cases c5:64 < getA (B 16) (nI (q * 4+j))
  · obtain ⟨v,e,h1⟩:=evL B hq4 (nI j) 64 (by decide) 64 0 (getA (B 15) (nI (q * 4+j))) 0 (fun _ => 0) (by omega)
    refine ⟨v,e,fun b pre post Q s A h m hq => ?_⟩
    have q1:=in15 h (i:=q * 4+j) (by omega)
    have q2:=in16 h (i:=q * 4+j) (by omega)
    have m5:=m.2.2.2.2.1
    have m6:=m.2.2.2.2.2
    rw [← m6] at c5
    simp [c1,c2,c3,c4,c5,q1,q2,nI_add,nI_x4,nI_x64,k42_0,m42_72,k42_1,ks,k2_0,ks]
    rw [m5]
    exact h1 _ _ _ _ _ _ h m rfl (SS s A) (fun s' A' f g => hq s' A' (EF_t (EF_s (EF_s (EF_r h) (Or.inr rfl)) (Or.inl rfl)) f) g)
  · obtain ⟨v,e,h1⟩:=evL B hq4 (nI j) _ c5 64 0 (getA (B 15) (nI (q * 4+j))) 0 (fun _ => 0) (by omega)
    refine ⟨v,e,fun b pre post Q s A h m hq => ?_⟩
    have q1:=in15 h (i:=q * 4+j) (by omega)
    have q2:=in16 h (i:=q * 4+j) (by omega)
    have m5:=m.2.2.2.2.1
    have m6:=m.2.2.2.2.2
    rw [← m6] at c5
    simp [c1,c2,c3,c4,c5,q1,q2,nI_add,nI_x4,nI_x64,k42_0,m42_72,k42_1,ks,k2_0,ks]
    rw [m5,m6]
    exact h1 _ _ _ _ _ _ h m rfl (SS s A) (fun s' A' f g => hq s' A' (EF_t (EF_s (EF_s (EF_r h) (Or.inr rfl)) (Or.inl rfl)) f) g)
end Eva
theorem m31_r:∀ x:Fin 32,nI x.val &&& 31=nI x.val:=by decide +kernel
theorem m31 {x:Nat} (h:x < 32):nI x &&& 31=nI x:=m31_r ⟨x,h⟩
theorem n31 (v:Int32):∃ k,k < 32∧v &&& 31=nI k:=by
  have d:=and_bd v 31 (by decide)
  have d2:(v &&& 31).toInt≤31:=d.2
  exact rgN d.1 (by omega)
theorem n7 (v:Int32):∃ k,k < 8∧v &&& 7=nI k:=by
  have d:=and_bd v 7 (by decide)
  have d2:(v &&& 7).toInt≤7:=d.2
  exact rgN d.1 (by omega)
def XR (s:Nat→Int32) (A:Nat→List Int32) (R M:List Int32) (p:Nat) (hh:Int32) (s':Nat→Int32) (A':Nat→List Int32):Prop:=LN A'∧s' 0=nI p∧s' 1=hh∧(∀ i,1 < i→s' i=s i)∧A' 0=R∧A' 1=M∧(∀ j,1 < j→A' j=A j)
/-- execute at x over the state B -/
def EX (B:Nat→List Int32) (x:Nat) (R M:List Int32) (p:Nat) (hh:Int32):Prop:=p < 32∧∀ (b:Nat) (pre post:AHeap) (Q:Option Value→AHeap→Prop) (s:Nat→Int32) (A:Nat→List Int32),LN A→(∀ j,j < 5→A j=B j)→s 1=0→(∀ s' A',XR s A R M p hh s' A'→Q none (put (b+1) pre s' A' post))→M32 0 [.val (.ref (b+1)),.val (.int (nI x)),.unset,.unset,.unset,.unset] [] (put (b+1) pre s A post) Q
set_option maxRecDepth 1000000 in
set_option maxHeartbeats 20000000 in
theorem exX (B:Nat→List Int32) {x:Nat} (hx:x < 32):∃ R M p hh,EX B x R M p hh:=by
  have mx:=m31 hx
  obtain ⟨a,ha8,ha⟩:=n7 (getA (B 3) (nI x))
  obtain ⟨c,hc8,hc⟩:=n7 (getA (B 4) (nI x))
  obtain ⟨d,hd8,hd⟩:=n31 (getA (B 0) (nI c))
  obtain ⟨p,hp8,hp⟩:=n31 (nI x+1)
  by_cases o0:getA (B 2) (nI x)=0
  · refine ⟨B 0,B 1,x,1,by omega,fun b pre post Q s A h hB z hq => ?_⟩
    have e0:=hB 0 (by omega)
    have e1:=hB 1 (by omega)
    have e2:=hB 2 (by omega)
    have e3:=hB 3 (by omega)
    have e4:=hB 4 (by omega)
    have l0:(B 0).length=8:=by rw [← e0]; exact ln0 h
    have l1:(B 1).length=32:=by rw [← e1]; exact ln1 h
    have q2:inB (nI x) (B 2):=by rw [← e2]; exact in2 h hx
    have q3:inB (nI x) (B 3):=by rw [← e3]; exact in3 h hx
    have q4:inB (nI x) (B 4):=by rw [← e4]; exact in4 h hx
    have qa:inB (nI a) (B 0):=nI_in (by omega) (by omega)
    have qb:inB (nI c) (B 0):=nI_in (by omega) (by omega)
    have qm:inB (nI d) (B 1):=nI_in (by omega) (by omega)
    have Lr:∀ y v,(setA (B 0) y v).length=(A0 0).length:=fun y v => by rw [setA_len,← e0]; exact h 0
    have Lm:∀ y v,(setA (B 1) y v).length=(A0 1).length:=fun y v => by rw [setA_len,← e1]; exact h 1
    simp [o0,e0,e1,e2,e3,e4,q2,q3,q4,qa,qb,qm,mx,ha,hc,hd,hp,k32_0,k32_1,ks,k63_0,k63_1,ks]
    exact hq _ _ ⟨h,rfl,rfl,fun i hi => by (repeat rw [os_ne (by omega)]),e0,e1,fun j hj => by first | rfl | rw [ou_ne (by omega)]⟩
  by_cases o7:getA (B 2) (nI x)=7
  · obtain ⟨p2,hp28,hp2⟩:=n31 (getA (B 4) (nI x))
    by_cases g:getA (B 0) (nI a)=0
    · refine ⟨B 0,B 1,p,0,by omega,fun b pre post Q s A h hB z hq => ?_⟩
      have e0:=hB 0 (by omega)
      have e1:=hB 1 (by omega)
      have e2:=hB 2 (by omega)
      have e3:=hB 3 (by omega)
      have e4:=hB 4 (by omega)
      have l0:(B 0).length=8:=by rw [← e0]; exact ln0 h
      have l1:(B 1).length=32:=by rw [← e1]; exact ln1 h
      have q2:inB (nI x) (B 2):=by rw [← e2]; exact in2 h hx
      have q3:inB (nI x) (B 3):=by rw [← e3]; exact in3 h hx
      have q4:inB (nI x) (B 4):=by rw [← e4]; exact in4 h hx
      have qa:inB (nI a) (B 0):=nI_in (by omega) (by omega)
      have qb:inB (nI c) (B 0):=nI_in (by omega) (by omega)
      have qm:inB (nI d) (B 1):=nI_in (by omega) (by omega)
      have Lr:∀ y v,(setA (B 0) y v).length=(A0 0).length:=fun y v => by rw [setA_len,← e0]; exact h 0
      have Lm:∀ y v,(setA (B 1) y v).length=(A0 1).length:=fun y v => by rw [setA_len,← e1]; exact h 1
      simp [o7,g,e0,e1,e2,e3,e4,q2,q3,q4,qa,qb,qm,mx,ha,hc,hd,hp,k32_0,k32_1,ks,k63_0,k63_1,ks]
      exact hq _ _ ⟨h,rfl,z,fun i hi => by (repeat rw [os_ne (by omega)]),e0,e1,fun j hj => by first | rfl | rw [ou_ne (by omega)]⟩
    · refine ⟨B 0,B 1,p2,0,by omega,fun b pre post Q s A h hB z hq => ?_⟩
      have e0:=hB 0 (by omega)
      have e1:=hB 1 (by omega)
      have e2:=hB 2 (by omega)
      have e3:=hB 3 (by omega)
      have e4:=hB 4 (by omega)
      have l0:(B 0).length=8:=by rw [← e0]; exact ln0 h
      have l1:(B 1).length=32:=by rw [← e1]; exact ln1 h
      have q2:inB (nI x) (B 2):=by rw [← e2]; exact in2 h hx
      have q3:inB (nI x) (B 3):=by rw [← e3]; exact in3 h hx
      have q4:inB (nI x) (B 4):=by rw [← e4]; exact in4 h hx
      have qa:inB (nI a) (B 0):=nI_in (by omega) (by omega)
      have qb:inB (nI c) (B 0):=nI_in (by omega) (by omega)
      have qm:inB (nI d) (B 1):=nI_in (by omega) (by omega)
      have Lr:∀ y v,(setA (B 0) y v).length=(A0 0).length:=fun y v => by rw [setA_len,← e0]; exact h 0
      have Lm:∀ y v,(setA (B 1) y v).length=(A0 1).length:=fun y v => by rw [setA_len,← e1]; exact h 1
      simp [o7,g,hp2,e0,e1,e2,e3,e4,q2,q3,q4,qa,qb,qm,mx,ha,hc,hd,hp,k32_0,k32_1,ks,k63_0,k63_1,ks]
      exact hq _ _ ⟨h,rfl,z,fun i hi => by (repeat rw [os_ne (by omega)]),e0,e1,fun j hj => by first | rfl | rw [ou_ne (by omega)]⟩
  by_cases o1:getA (B 2) (nI x)=1
  · refine ⟨(setA (B 0) (nI a) (getA (B 4) (nI x))),(B 1),p,0,by omega,fun b pre post Q s A h hB z hq => ?_⟩
    have e0:=hB 0 (by omega)
    have e1:=hB 1 (by omega)
    have e2:=hB 2 (by omega)
    have e3:=hB 3 (by omega)
    have e4:=hB 4 (by omega)
    have l0:(B 0).length=8:=by rw [← e0]; exact ln0 h
    have l1:(B 1).length=32:=by rw [← e1]; exact ln1 h
    have q2:inB (nI x) (B 2):=by rw [← e2]; exact in2 h hx
    have q3:inB (nI x) (B 3):=by rw [← e3]; exact in3 h hx
    have q4:inB (nI x) (B 4):=by rw [← e4]; exact in4 h hx
    have qa:inB (nI a) (B 0):=nI_in (by omega) (by omega)
    have qb:inB (nI c) (B 0):=nI_in (by omega) (by omega)
    have qm:inB (nI d) (B 1):=nI_in (by omega) (by omega)
    have Lr:∀ y v,(setA (B 0) y v).length=(A0 0).length:=fun y v => by rw [setA_len,← e0]; exact h 0
    have Lm:∀ y v,(setA (B 1) y v).length=(A0 1).length:=fun y v => by rw [setA_len,← e1]; exact h 1
    simp [o1,e0,e1,e2,e3,e4,q2,q3,q4,qa,qb,qm,mx,ha,hc,hd,hp,k32_0,k32_1,ks,k63_0,k63_1,ks]
    exact hq _ _ ⟨LN_ou h (Lr _ _),rfl,z,fun i hi => by (repeat rw [os_ne (by omega)]),rfl,e1,fun j hj => by first | rfl | rw [ou_ne (by omega)]⟩
  by_cases o2:getA (B 2) (nI x)=2
  · refine ⟨(setA (B 0) (nI a) (getA (B 0) (nI a)+getA (B 0) (nI c))),(B 1),p,0,by omega,fun b pre post Q s A h hB z hq => ?_⟩
    have e0:=hB 0 (by omega)
    have e1:=hB 1 (by omega)
    have e2:=hB 2 (by omega)
    have e3:=hB 3 (by omega)
    have e4:=hB 4 (by omega)
    have l0:(B 0).length=8:=by rw [← e0]; exact ln0 h
    have l1:(B 1).length=32:=by rw [← e1]; exact ln1 h
    have q2:inB (nI x) (B 2):=by rw [← e2]; exact in2 h hx
    have q3:inB (nI x) (B 3):=by rw [← e3]; exact in3 h hx
    have q4:inB (nI x) (B 4):=by rw [← e4]; exact in4 h hx
    have qa:inB (nI a) (B 0):=nI_in (by omega) (by omega)
    have qb:inB (nI c) (B 0):=nI_in (by omega) (by omega)
    have qm:inB (nI d) (B 1):=nI_in (by omega) (by omega)
    have Lr:∀ y v,(setA (B 0) y v).length=(A0 0).length:=fun y v => by rw [setA_len,← e0]; exact h 0
    have Lm:∀ y v,(setA (B 1) y v).length=(A0 1).length:=fun y v => by rw [setA_len,← e1]; exact h 1
    simp [o2,e0,e1,e2,e3,e4,q2,q3,q4,qa,qb,qm,mx,ha,hc,hd,hp,k32_0,k32_1,ks,k63_0,k63_1,ks]
    exact hq _ _ ⟨LN_ou h (Lr _ _),rfl,z,fun i hi => by (repeat rw [os_ne (by omega)]),rfl,e1,fun j hj => by first | rfl | rw [ou_ne (by omega)]⟩
  by_cases o3:getA (B 2) (nI x)=3
  · refine ⟨(setA (B 0) (nI a) (getA (B 0) (nI a) - getA (B 0) (nI c))),(B 1),p,0,by omega,fun b pre post Q s A h hB z hq => ?_⟩
    have e0:=hB 0 (by omega)
    have e1:=hB 1 (by omega)
    have e2:=hB 2 (by omega)
    have e3:=hB 3 (by omega)
    have e4:=hB 4 (by omega)
    have l0:(B 0).length=8:=by rw [← e0]; exact ln0 h
    have l1:(B 1).length=32:=by rw [← e1]; exact ln1 h
    have q2:inB (nI x) (B 2):=by rw [← e2]; exact in2 h hx
    have q3:inB (nI x) (B 3):=by rw [← e3]; exact in3 h hx
    have q4:inB (nI x) (B 4):=by rw [← e4]; exact in4 h hx
    have qa:inB (nI a) (B 0):=nI_in (by omega) (by omega)
    have qb:inB (nI c) (B 0):=nI_in (by omega) (by omega)
    have qm:inB (nI d) (B 1):=nI_in (by omega) (by omega)
    have Lr:∀ y v,(setA (B 0) y v).length=(A0 0).length:=fun y v => by rw [setA_len,← e0]; exact h 0
    have Lm:∀ y v,(setA (B 1) y v).length=(A0 1).length:=fun y v => by rw [setA_len,← e1]; exact h 1
    simp [o3,e0,e1,e2,e3,e4,q2,q3,q4,qa,qb,qm,mx,ha,hc,hd,hp,k32_0,k32_1,ks,k63_0,k63_1,ks]
    exact hq _ _ ⟨LN_ou h (Lr _ _),rfl,z,fun i hi => by (repeat rw [os_ne (by omega)]),rfl,e1,fun j hj => by first | rfl | rw [ou_ne (by omega)]⟩
  by_cases o4:getA (B 2) (nI x)=4
  · refine ⟨(setA (B 0) (nI a) (getA (B 0) (nI a)+getA (B 4) (nI x))),(B 1),p,0,by omega,fun b pre post Q s A h hB z hq => ?_⟩
    have e0:=hB 0 (by omega)
    have e1:=hB 1 (by omega)
    have e2:=hB 2 (by omega)
    have e3:=hB 3 (by omega)
    have e4:=hB 4 (by omega)
    have l0:(B 0).length=8:=by rw [← e0]; exact ln0 h
    have l1:(B 1).length=32:=by rw [← e1]; exact ln1 h
    have q2:inB (nI x) (B 2):=by rw [← e2]; exact in2 h hx
    have q3:inB (nI x) (B 3):=by rw [← e3]; exact in3 h hx
    have q4:inB (nI x) (B 4):=by rw [← e4]; exact in4 h hx
    have qa:inB (nI a) (B 0):=nI_in (by omega) (by omega)
    have qb:inB (nI c) (B 0):=nI_in (by omega) (by omega)
    have qm:inB (nI d) (B 1):=nI_in (by omega) (by omega)
    have Lr:∀ y v,(setA (B 0) y v).length=(A0 0).length:=fun y v => by rw [setA_len,← e0]; exact h 0
    have Lm:∀ y v,(setA (B 1) y v).length=(A0 1).length:=fun y v => by rw [setA_len,← e1]; exact h 1
    simp [o4,e0,e1,e2,e3,e4,q2,q3,q4,qa,qb,qm,mx,ha,hc,hd,hp,k32_0,k32_1,ks,k63_0,k63_1,ks]
    exact hq _ _ ⟨LN_ou h (Lr _ _),rfl,z,fun i hi => by (repeat rw [os_ne (by omega)]),rfl,e1,fun j hj => by first | rfl | rw [ou_ne (by omega)]⟩
  by_cases o5:getA (B 2) (nI x)=5
  · refine ⟨(setA (B 0) (nI a) (getA (B 1) (nI d))),(B 1),p,0,by omega,fun b pre post Q s A h hB z hq => ?_⟩
    have e0:=hB 0 (by omega)
    have e1:=hB 1 (by omega)
    have e2:=hB 2 (by omega)
    have e3:=hB 3 (by omega)
    have e4:=hB 4 (by omega)
    have l0:(B 0).length=8:=by rw [← e0]; exact ln0 h
    have l1:(B 1).length=32:=by rw [← e1]; exact ln1 h
    have q2:inB (nI x) (B 2):=by rw [← e2]; exact in2 h hx
    have q3:inB (nI x) (B 3):=by rw [← e3]; exact in3 h hx
    have q4:inB (nI x) (B 4):=by rw [← e4]; exact in4 h hx
    have qa:inB (nI a) (B 0):=nI_in (by omega) (by omega)
    have qb:inB (nI c) (B 0):=nI_in (by omega) (by omega)
    have qm:inB (nI d) (B 1):=nI_in (by omega) (by omega)
    have Lr:∀ y v,(setA (B 0) y v).length=(A0 0).length:=fun y v => by rw [setA_len,← e0]; exact h 0
    have Lm:∀ y v,(setA (B 1) y v).length=(A0 1).length:=fun y v => by rw [setA_len,← e1]; exact h 1
    simp [o5,e0,e1,e2,e3,e4,q2,q3,q4,qa,qb,qm,mx,ha,hc,hd,hp,k32_0,k32_1,ks,k63_0,k63_1,ks]
    exact hq _ _ ⟨LN_ou h (Lr _ _),rfl,z,fun i hi => by (repeat rw [os_ne (by omega)]),rfl,e1,fun j hj => by first | rfl | rw [ou_ne (by omega)]⟩
  by_cases o6:getA (B 2) (nI x)=6
  · refine ⟨(B 0),(setA (B 1) (nI d) (getA (B 0) (nI a))),p,0,by omega,fun b pre post Q s A h hB z hq => ?_⟩
    have e0:=hB 0 (by omega)
    have e1:=hB 1 (by omega)
    have e2:=hB 2 (by omega)
    have e3:=hB 3 (by omega)
    have e4:=hB 4 (by omega)
    have l0:(B 0).length=8:=by rw [← e0]; exact ln0 h
    have l1:(B 1).length=32:=by rw [← e1]; exact ln1 h
    have q2:inB (nI x) (B 2):=by rw [← e2]; exact in2 h hx
    have q3:inB (nI x) (B 3):=by rw [← e3]; exact in3 h hx
    have q4:inB (nI x) (B 4):=by rw [← e4]; exact in4 h hx
    have qa:inB (nI a) (B 0):=nI_in (by omega) (by omega)
    have qb:inB (nI c) (B 0):=nI_in (by omega) (by omega)
    have qm:inB (nI d) (B 1):=nI_in (by omega) (by omega)
    have Lr:∀ y v,(setA (B 0) y v).length=(A0 0).length:=fun y v => by rw [setA_len,← e0]; exact h 0
    have Lm:∀ y v,(setA (B 1) y v).length=(A0 1).length:=fun y v => by rw [setA_len,← e1]; exact h 1
    simp [o6,e0,e1,e2,e3,e4,q2,q3,q4,qa,qb,qm,mx,ha,hc,hd,hp,k32_0,k32_1,ks,k63_0,k63_1,ks]
    exact hq _ _ ⟨LN_ou h (Lm _ _),rfl,z,fun i hi => by (repeat rw [os_ne (by omega)]),e0,rfl,fun j hj => by first | rfl | rw [ou_ne (by omega)]⟩
  · refine ⟨B 0,B 1,p,0,by omega,fun b pre post Q s A h hB z hq => ?_⟩
    have e0:=hB 0 (by omega)
    have e1:=hB 1 (by omega)
    have e2:=hB 2 (by omega)
    have e3:=hB 3 (by omega)
    have e4:=hB 4 (by omega)
    have l0:(B 0).length=8:=by rw [← e0]; exact ln0 h
    have l1:(B 1).length=32:=by rw [← e1]; exact ln1 h
    have q2:inB (nI x) (B 2):=by rw [← e2]; exact in2 h hx
    have q3:inB (nI x) (B 3):=by rw [← e3]; exact in3 h hx
    have q4:inB (nI x) (B 4):=by rw [← e4]; exact in4 h hx
    have qa:inB (nI a) (B 0):=nI_in (by omega) (by omega)
    have qb:inB (nI c) (B 0):=nI_in (by omega) (by omega)
    have qm:inB (nI d) (B 1):=nI_in (by omega) (by omega)
    have Lr:∀ y v,(setA (B 0) y v).length=(A0 0).length:=fun y v => by rw [setA_len,← e0]; exact h 0
    have Lm:∀ y v,(setA (B 1) y v).length=(A0 1).length:=fun y v => by rw [setA_len,← e1]; exact h 1
    simp [o0,o1,o2,o3,o4,o5,o6,o7,e0,e1,e2,e3,e4,q2,q3,q4,qa,qb,qm,mx,ha,hc,hd,hp,k32_0,k32_1,ks,k63_0,k63_1,ks]
    exact hq _ _ ⟨h,rfl,z,fun i hi => by (repeat rw [os_ne (by omega)]),e0,e1,fun j hj => by first | rfl | rw [ou_ne (by omega)]⟩
def MS (k:Int32) (E:Nat→Int32):Nat→Int32
  | 0 => 0
  | i+1 => if 1≤i∧nI i < k∧E i ≠ 0 then MS k E i ||| ((1:Int32) <<< ((nI i - 1) &&& 31)) else MS k E i
def VC (k:Int32) (V E:Nat→Int32) (j c:Nat):Int32:=if c+1 < j∧nI (c+1) < k∧E (c+1)=0 then V (c+1) else 0
theorem MS_up {k:Int32}{E:Nat→Int32}{j:Nat} (hj:¬ nI j < k) (h1:1≤j):∀ r,j+r≤100→MS k E (j+r)=MS k E j:=by
  intro r
  induction r with
  | zero => intro _; rfl
  | succ r ih =>
    intro hr
    show MS k E (j+r+1)=_
    rw [MS,if_neg,ih (by omega)]
    intro ⟨_,c,_⟩
    have a:=nlti hj
    have d:=lti c
    rw [nI_int (by omega)] at a d
    omega
theorem VC_up {k:Int32}{V E:Nat→Int32}{j c:Nat} (hj:¬ nI j < k) (h1:j≤4) (hc:c < 3):VC k V E 4 c=VC k V E j c:=by
  unfold VC
  by_cases g:c+1 < j
  · have:c+1 < 4:=by omega
    simp only [g,this]
  · rw [if_neg (fun q => ?_),if_neg (fun q => g q.1)]
    have a:=nlti hj
    have d:=lti q.2.1
    rw [nI_int (by omega)] at a d
    omega
theorem VC_s {k:Int32}{V E:Nat→Int32}{j c:Nat} (hc:c+1 ≠ j):VC k V E (j+1) c=VC k V E j c:=by
  unfold VC
  by_cases g:c+1 < j
  · have g2:c+1 < j+1:=by omega
    simp only [g,g2]
  · rw [if_neg (fun q => g (by have:=q.1; omega)),if_neg (fun q => g q.1)]
def BR (s:Nat→Int32) (A:Nat→List Int32) (s':Nat→Int32) (A':Nat→List Int32):Prop:=LN A'∧(∀ i,i ≠ 15→i ≠ 16→i ≠ 26→s' i=s i)∧(∀ j,j ≠ 24→j ≠ 31→A' j=A j)
section Fr
variable {b:Nat}{pre post:AHeap}{Q:Option Value→AHeap→Prop}{s s' s'':Nat→Int32}{A A' A'' B:Nat→List Int32}{q x:Nat}{V E:Nat→Int32}
theorem BR_t (h:BR s A s' A') (g:BR s' A' s'' A''):BR s A s'' A'':=⟨g.1,fun i a c d => (g.2.1 i a c d).trans (h.2.1 i a c d),fun j a c => (g.2.2 j a c).trans (h.2.2 j a c)⟩
theorem BR_f (g:EF s A s' A'):BR s A s' A':=⟨g.1,fun i a c _ => g.2.1 i a c,fun j a _ => g.2.2 j a⟩
theorem SM.br (h:SM B A) (g:BR s A s' A'):SM B A':=⟨(g.2.2 0 (by decide) (by decide)).trans h.1,(g.2.2 1 (by decide) (by decide)).trans h.2.1,(g.2.2 13 (by decide) (by decide)).trans h.2.2.1,(g.2.2 14 (by decide) (by decide)).trans h.2.2.2.1,(g.2.2 15 (by decide) (by decide)).trans h.2.2.2.2.1,(g.2.2 16 (by decide) (by decide)).trans h.2.2.2.2.2⟩
theorem g31 {l:List Int32}{p q:Nat}{x:Int32} (hl:l.length=3) (hp:p < 3) (hq:q < 3):getA (setA l (nI q) x) (nI p)=if p=q then x else getA l (nI p):=cf_set (by omega) (by omega) (by omega)
set_option maxRecDepth 1000000 in
set_option maxHeartbeats 20000000 in
theorem bfL (hq4:q < 4) (hE:∀ j,j < 4→EV B q j (V j) (E j)) {k y:Int32}:∀ (r j:Nat) (l5:Slot) (s:Nat→Int32) (A:Nat→List Int32),j+r=4→1≤j→okS l5→LN A→SM B A→s 26=MS k E j→(∀ c,c < 3→getA (A 31) (nI c)=VC k V E j c) →
    (∀ s' A',BR s A s' A'→s' 26=MS k E 4→(∀ c,c < 3→getA (A' 31) (nI c)=VC k V E 4 c)→Q none (put (b+1) pre s' A' post))→M51 81 [.val (.ref (b+1)),.val (.int (nI q)),.val (.int (y)),.val (.int (k)),.val (.int (nI j)),l5] [] (put (b+1) pre s A post) Q:=by
  intro r
  induction r with
  | zero =>
    intro j l5 s A e j1 o5 h m hs hv hq
    obtain rfl:j=4:=by omega
    have c2:(nI 4 < 4)=False:=lF (c:=4) (by omega) (by omega)
    rw [m51_81]
    by_cases c1:nI 4 < k
    · simp [c1,c2,k51_0,m51_58,k51_1,k51_2,ks]
      exact hq _ _ ⟨h,fun _ _ _ _ => rfl,fun _ _ _ => rfl⟩ hs hv
    · simp [c1,k51_0,m51_58,k51_1,k51_2,ks]
      exact hq _ _ ⟨h,fun _ _ _ _ => rfl,fun _ _ _ => rfl⟩ hs hv
  | succ r ih =>
    intro j l5 s A e j1 o5 h m hs hv hq
    rw [m51_81]
    by_cases c1:nI j < k
    · have c2:(nI j < 4)=True:=lT (c:=4) (by omega) (by decide)
      have e1:nI j - 1=nI (j - 1):=nI_sub (c:=1) (by omega)
      simp [c1,c2,k51_0,m51_58,k51_1,k51_2,ks]
      refine hE j (by omega) _ _ _ _ _ _ h m (fun s1 A1 f g => ?_)
      by_cases z:E j=0
      · have g':=g.trans z
        have q1:=in31 f.1 (i:=j - 1) (by omega)
        simp [g',o5,e1,q1,nI_1,k51_0,m51_58,k51_1,k51_2,ks]
        have l31:=ln31 f.1
        have b1:BR s A s1 (ou A1 31 (setA (A1 31) (nI (j - 1)) (V j))):=⟨LN_set f.1,fun i a c _ => f.2.1 i a c,fun i a c => by rw [ou_ne c]; exact f.2.2 i a⟩
        refine ih (j+1) _ _ _ (by omega) (by omega) (okS_i _) b1.1 (m.br b1) ?_ (fun c hc => ?_) (fun s2 A2 b2 g2 v2 => hq s2 A2 (BR_t b1 b2) g2 v2)
        · rw [f.2.1 26 (by decide) (by decide),hs,MS,if_neg (fun q => q.2.2 z)]
        · rw [ou_eq,g31 l31 hc (by omega),f.2.2 31 (by decide),hv c hc]
          by_cases g3:c=j - 1
          · obtain rfl:j=c+1:=by omega
            unfold VC
            rw [if_pos g3,if_pos ⟨by omega,c1,z⟩]
          · rw [if_neg g3,VC_s (by omega)]
      · have g':¬ s1 16=0:=by rw [g]; exact z
        simp [g',o5,e1,nI_1,k51_0,m51_58,k51_1,k51_2,ks]
        have b1:BR s A (ou s1 26 (s1 26 ||| (1:Int32) <<< (nI (j - 1) &&& 31))) A1:=⟨f.1,fun i a c d => by rw [os_ne d]; exact f.2.1 i a c,fun i a c => f.2.2 i a⟩
        refine ih (j+1) _ _ _ (by omega) (by omega) (okS_i _) b1.1 (m.br b1) ?_ (fun c hc => ?_) (fun s2 A2 b2 g2 v2 => hq s2 A2 (BR_t b1 b2) g2 v2)
        · rw [os_eq,f.2.1 26 (by decide) (by decide),hs,MS,if_pos ⟨j1,c1,z⟩,e1]
        · rw [f.2.2 31 (by decide),hv c hc]
          by_cases g3:c+1=j
          · unfold VC
            rw [if_neg (fun q => absurd q.1 (by omega)),if_neg (fun q => z (by rw [← g3]; exact q.2.2))]
          · rw [VC_s g3]
    · simp [c1,k51_0,m51_58,k51_1,k51_2,ks]
      refine hq _ _ ⟨h,fun _ _ _ _ => rfl,fun _ _ _ => rfl⟩ ?_ (fun c hc => ?_)
      · have u:=MS_up (E:=E) c1 j1 (4 - j) (by omega)
        rw [show j+(4 - j)=4 by omega] at u
        rw [u]; exact hs
      · rw [VC_up c1 (by omega) hc]; exact hv c hc
/-- what buildFrame leaves -/
def BF (q x:Nat) (V E:Nat→Int32) (s:Nat→Int32) (A:Nat→List Int32) (s':Nat→Int32) (A':Nat→List Int32):Prop:=LN A'∧(∀ i,i ≠ 15→i ≠ 16→i < 22 ∨ 27 < i→s' i=s i)∧(∀ j,j ≠ 24→j ≠ 31→A' j=A j)∧s' 22=s 22+1∧s' 23=nI x∧s' 24=nI q∧s' 25=getA (A 11) (nI q) - 1∧s' 26=MS (getA (A 11) (nI q)) E 4∧s' 27=s 22+1∧(∀ c,c < 3→getA (A' 31) (nI c)=VC (getA (A 11) (nI q)) V E 4 c)
theorem z31 {l:List Int32} (h:l.length=3):∀ c,c < 3→getA (setA (setA (setA l 0 0) 1 0) 2 0) (nI c)=0:=by
  intro c hc
  match l,h with
  | [u,v,w],_ =>
    rcases (by omega:c=0 ∨ c=1 ∨ c=2) with rfl | rfl | rfl <;> rfl
set_option maxRecDepth 1000000 in
set_option maxHeartbeats 20000000 in
theorem bfW (hq4:q < 4) (h:LN A) (m:SM B A) (hE:∀ j,j < 4→EV B q j (V j) (E j)) (hk:1≤(getA (A 11) (nI q)).toInt) (hq:∀ s' A',BF q x V E s A s' A'→Q none (put (b+1) pre s' A' post)):M51 0 [.val (.ref (b+1)),.val (.int (nI q)),.val (.int (nI x)),.unset,.unset,.unset] [] (put (b+1) pre s A post) Q:=by
  have c1:0 < getA (A 11) (nI q):=by rw [lt_i,i_0]; omega
  have q1:=in11 h (i:=q) hq4
  have p0:inB 0 (A 31):=in31 h (i:=0) (by decide)
  have p1:inB 1 (A 31):=in31 h (i:=1) (by decide)
  have p2:inB 2 (A 31):=in31 h (i:=2) (by decide)
  simp [c1,q1,p0,p1,p2,inB_set,setA_len,ou_same,k51_0,m51_58,k51_1,k51_2,ks]
  have l31:=ln31 h
  have LA:LN (ou A 31 (setA (setA (setA (A 31) 0 0) 1 0) 2 0)):=LN_ou h (by rw [setA_len,setA_len,setA_len]; exact h 31)
  refine bfL (V:=V) (E:=E) hq4 hE 3 1 _ _ _ (by omega) (by omega) okS_u LA (m.br (s:=s) (s':=s) ⟨LA,fun _ _ _ _ => rfl,fun j a c => ou_ne c⟩) (by rw [MS,if_neg (fun q => absurd q.1 (by decide))]; rfl) (fun c hc => ?_) (fun s' A' b1 g v => hq s' A' ⟨b1.1,fun i a c d => ?_,fun j a c => ?_,?_,?_,?_,?_,g,?_,v⟩)
  · rw [ou_eq,z31 l31 c hc]
    unfold VC
    rw [if_neg (fun q => absurd q.1 (by omega))]
  · rw [b1.2.1 i a c (by omega)]
    (repeat rw [os_ne (by omega)])
  · rw [b1.2.2 j a c,ou_ne c]
  · rw [b1.2.1 22 (by decide) (by decide) (by decide)]; rfl
  · rw [b1.2.1 23 (by decide) (by decide) (by decide)]; rfl
  · rw [b1.2.1 24 (by decide) (by decide) (by decide)]; rfl
  · rw [b1.2.1 25 (by decide) (by decide) (by decide)]; rfl
  · rw [b1.2.1 27 (by decide) (by decide) (by decide)]; rfl
/-- the newest frame stands in the ring -/
def FW (u v w m z:Int32) (W:Nat→Int32) (s':Nat→Int32) (A':Nat→List Int32):Prop:=1≤(s' 20).toInt∧∃ a,a < 8∧(s' 19+(s' 20 - 1)) &&& 7=nI a∧getA (A' 25) (nI a)=u∧getA (A' 26) (nI a)=v∧getA (A' 27) (nI a)=w∧getA (A' 28) (nI a)=m∧getA (A' 29) (nI a)=z∧(∀ c,c < 3→getA (A' 30) (nI (a * 3+c))=W c)
/-- what writePending leaves -/
def WP (a:Nat) (s:Nat→Int32) (A A':Nat→List Int32):Prop:=AF 25 30 A A'∧getA (A' 25) (nI a)=s 23∧getA (A' 26) (nI a)=s 24∧getA (A' 27) (nI a)=s 25∧getA (A' 28) (nI a)=s 26∧getA (A' 29) (nI a)=s 27∧(∀ c,c < 3→getA (A' 30) (nI (a * 3+c))=getA (A 31) (nI c))
theorem nI_2 (a:Nat):nI a+2=nI (a+2):=nI_add a 2
theorem g8 {l:List Int32}{a:Nat}{x:Int32} (hl:l.length=8) (ha:a < 8):getA (setA l (nI a) x) (nI a)=x:=by rw [cf_set (by omega) (by omega) (by omega),if_pos rfl]
set_option maxRecDepth 1000000 in
set_option maxHeartbeats 20000000 in
theorem wpW {y:Int32}{a:Nat} (ha:a < 8) (hy:y &&& 7=nI a) (h:LN A) (hq:∀ A',WP a s A A'→Q none (put (b+1) pre s A' post)):M53 0 [.val (.ref (b+1)),.val (.int (y)),.unset,.unset] [] (put (b+1) pre s A post) Q:=by
  have q5:=in25 h ha
  have q6:=in26 h ha
  have q7:=in27 h ha
  have q8:=in28 h ha
  have q9:=in29 h ha
  have r0:=in30 h (i:=a * 3) (by omega)
  have r1:=in30 h (i:=a * 3+1) (by omega)
  have r2:=in30 h (i:=a * 3+2) (by omega)
  have p0:inB 0 (A 31):=in31 h (i:=0) (by decide)
  have p1:inB 1 (A 31):=in31 h (i:=1) (by decide)
  have p2:inB 2 (A 31):=in31 h (i:=2) (by decide)
  have l30:=ln30 h
  simp [hy,q5,q6,q7,q8,q9,r0,r1,r2,p0,p1,p2,inB_set,nI_x3,nI_1,nI_2,ou_same,k53_0,m53_57,k53_1,ks]
  refine hq _ ⟨⟨?_,?_⟩,?_,?_,?_,?_,?_,?_⟩
  · refine LN_ou (LN_ou (LN_ou (LN_ou (LN_ou (LN_ou h (sl h)) (sl h)) (sl h)) (sl h)) (sl h)) ?_
    rw [setA_len,setA_len,setA_len]; exact h 30
  · intro j hj
    (repeat rw [ou_ne (by omega)])
  · exact g8 (ln25 h) ha
  · exact g8 (ln26 h) ha
  · exact g8 (ln27 h) ha
  · exact g8 (ln28 h) ha
  · exact g8 (ln29 h) ha
  · intro c hc
    show getA (setA (setA (setA (A 30) (nI (a * 3)) (getA (A 31) 0)) (nI (a * 3+1)) (getA (A 31) 1)) (nI (a * 3+2)) (getA (A 31) 2)) (nI (a * 3+c))=_
    rw [cf_set (by rw [setA_len,setA_len]; omega) (by rw [setA_len,setA_len]; omega) (by omega),cf_set (by rw [setA_len]; omega) (by rw [setA_len]; omega) (by omega),cf_set (by omega) (by omega) (by omega)]
    rcases (by omega:c=0 ∨ c=1 ∨ c=2) with rfl | rfl | rfl
    · rw [if_neg (by omega),if_neg (by omega),if_pos (by omega)]; rfl
    · rw [if_neg (by omega),if_pos (by omega)]; rfl
    · rw [if_pos (by omega)]; rfl
/-- what storeFrame leaves alone -/
def SF (s:Nat→Int32) (A:Nat→List Int32) (s':Nat→Int32) (A':Nat→List Int32):Prop:=AF 25 30 A A'∧(∀ i,i < 19 ∨ 21 < i→s' i=s i)
theorem asc (a c:Int32):a+c - 1=a+(c - 1):=by rw [Int32.sub_eq_add_neg,Int32.add_assoc,← Int32.sub_eq_add_neg]
theorem acs (a:Int32):a+1 - 1=a:=Int32.add_sub_cancel a 1
set_option maxRecDepth 1000000 in
set_option maxHeartbeats 20000000 in
theorem sfW (h:DV s A) (hf:¬ s 20 < s 17→¬ s 18=0→∀ s',SF s A s' A→s' 20=s 20→Q (some (.int 0)) (put (b+1) pre s' A post)) (hq:(s 20 < s 17 ∨ s 18=0)→∀ s' A',SF s A s' A'→FW (s 23) (s 24) (s 25) (s 26) (s 27) (fun c => getA (A 31) (nI c)) s' A'→Q (some (.int 1)) (put (b+1) pre s' A' post)):M52 0 [.val (.ref (b+1))] [] (put (b+1) pre s A post) Q:=by
  have fh:=h.fh
  have cp:=h.cp
  by_cases c1:s 20 < s 17
  · obtain ⟨a,ha,hy⟩:=n7 (s 19+s 20)
    simp [c1,k52_0,ks]
    refine wpW ha hy h.ln (fun A' w => ?_)
    simp [k52_0,ks]
    have l:=lti c1
    have e:=add1_i (a:=s 20) (by have:=Int32.toInt_lt (s 17); omega)
    refine hq (Or.inl c1) _ _ ⟨w.1,fun i hi => os_ne (by omega)⟩ ⟨by rw [os_eq]; omega,a,ha,?_,w.2.1,w.2.2.1,w.2.2.2.1,w.2.2.2.2.1,w.2.2.2.2.2.1,w.2.2.2.2.2.2⟩
    rw [os_eq,os_ne (by decide),acs]; exact hy
  by_cases c2:s 18=0
  · obtain ⟨a,ha,hy⟩:=n7 (((s 19+1) &&& 7)+s 20 - 1)
    simp [c1,c2,k52_0,ks]
    refine wpW (s:=ou (ou s 21 (s 21+1)) 19 ((s 19+1) &&& 7)) ha hy h.ln (fun A' w => ?_)
    try simp [k52_0,ks]
    have l:=nlti c1
    refine hq (Or.inr c2) _ _ ⟨w.1,fun i hi => by rw [os_ne (by omega),os_ne (by omega)]⟩ ⟨?_,a,ha,?_,w.2.1,w.2.2.1,w.2.2.2.1,w.2.2.2.2.1,w.2.2.2.2.2.1,w.2.2.2.2.2.2⟩
    · rw [os_ne (by decide),os_ne (by decide)]; omega
    · rw [os_eq,os_ne (by decide),os_ne (by decide),← asc]; exact hy
  · simp [c1,c2,k52_0,ks]
    exact hf c1 c2 _ ⟨AF_r h.ln,fun i hi => os_ne (by omega)⟩ (os_ne (by decide))
/-- a hit without a frame -/
def HR (q:Nat) (s:Nat→Int32) (A:Nat→List Int32) (s':Nat→Int32) (A':Nat→List Int32):Prop:=LN A'∧A' 10=setA (A 10) (nI q) (getA (A 10) (nI q)+1)∧(∀ j,j ≠ 10→j ≠ 24→A' j=A j)∧(∀ i,i ≠ 2→i ≠ 5→i ≠ 15→i ≠ 16→s' i=s i)
/-- a hit with a frame -/
def HF (q:Nat) (s:Nat→Int32) (A:Nat→List Int32) (s':Nat→Int32) (A':Nat→List Int32):Prop:=LN A'∧A' 10=setA (A 10) (nI q) (getA (A 10) (nI q)+1)∧(∀ j,j ≠ 10→j < 24→A' j=A j)∧(∀ i,i ≠ 2→i ≠ 15→i ≠ 16→i < 19→s' i=s i)∧s' 22=s 22+1
theorem DV.hr (h:DV s A) (g:HR q s A s' A'):DV s' A':=h.fr g.1 (fun j hj => g.2.2.1 j (by omega) (by omega)) (fun i hi => g.2.2.2 i (by omega) (by omega) (by omega) (by omega))
theorem DV.hf (h:DV s A) (g:HF q s A s' A') (f:0≤(s' 20).toInt):DV s' A':=by
  refine ⟨g.1,?_,?_,?_,?_,f,?_⟩
  · rw [g.2.2.2.1 0 (by decide) (by decide) (by decide) (by decide)]; exact h.pc
  · rw [g.2.2.1 7 (by decide) (by decide),g.2.2.1 8 (by decide) (by decide)]; exact h.uq
  · rw [g.2.2.1 7 (by decide) (by decide),g.2.2.1 11 (by decide) (by decide)]; exact h.ex
  · rw [g.2.2.1 7 (by decide) (by decide),g.2.2.1 9 (by decide) (by decide)]; exact h.md
  · rw [g.2.2.2.1 17 (by decide) (by decide) (by decide) (by decide)]; exact h.cp
set_option maxRecDepth 1000000 in
set_option maxHeartbeats 20000000 in
theorem ahW (hq4:q < 4) (h:DV s A) (hst:getA (A 7) (nI q)=2) (hE:∀ j,j < 4→EV A q j (V j) (E j))
    (hqE:E 0 ≠ 0→∀ s' A',HR q s A s' A'→s' 5=E 0→s' 2=1→Q (some (.int 4)) (put (b+1) pre s' A' post))
    (hq0:E 0=0→V 0=0→∀ s' A',HR q s A s' A'→s' 2=s 2→Q (some (.int 0)) (put (b+1) pre s' A' post))
    (hqF:E 0=0→V 0 ≠ 0→¬ s 20 < s 17→¬ s 18=0→∀ s' A',HF q s A s' A'→s' 20=s 20→Q (some (.int 3)) (put (b+1) pre s' A' post))
    (hqS:E 0=0→V 0 ≠ 0→(s 20 < s 17 ∨ s 18=0)→getA (A 9) (nI q)=0→∀ s' A',HF q s A s' A'→FW (nI x) (nI q) (getA (A 11) (nI q) - 1) (MS (getA (A 11) (nI q)) E 4) (s 22+1) (VC (getA (A 11) (nI q)) V E 4) s' A'→s' 2=1→Q (some (.int 2)) (put (b+1) pre s' A' post))
    (hqT:E 0=0→V 0 ≠ 0→(s 20 < s 17 ∨ s 18=0)→¬ getA (A 9) (nI q)=0→∀ s' A',HF q s A s' A'→FW (nI x) (nI q) (getA (A 11) (nI q) - 1) (MS (getA (A 11) (nI q)) E 4) (s 22+1) (VC (getA (A 11) (nI q)) V E 4) s' A'→s' 2=s 2→Q (some (.int 0)) (put (b+1) pre s' A' post)) :
    M50 0 [.val (.ref (b+1)),.val (.int (nI q)),.val (.int (nI x)),.unset] [] (put (b+1) pre s A post) Q:=by
  have c1:(nI q < 0)=False:=nnF (by omega)
  have c2:=g3F hq4
  have q1:=in10 h.ln (i:=q) hq4
  simp [c1,c2,q1,k50_0,k50_1,k50_2,ks,k2_0,ks]
  have L1:LN (ou A 10 (setA (A 10) (nI q) (getA (A 10) (nI q)+1))):=LN_set h.ln
  have S1:SM A (ou A 10 (setA (A 10) (nI q) (getA (A 10) (nI q)+1))):=⟨rfl,rfl,rfl,rfl,rfl,rfl⟩
  refine hE 0 (by omega) _ _ _ _ _ _ L1 S1 (fun s1 A1 f g => ?_)
  have H1:HR q s A s1 A1:=⟨f.1,(f.2.2 10 (by decide)).trans ou_eq,fun j a c => (f.2.2 j c).trans (ou_ne a),fun i _ _ a c => f.2.1 i a c⟩
  by_cases z:E 0=0
  · have g':=g.trans z
    by_cases z1:V 0=0
    · simp [g',z1,k50_0,k50_1,k50_2,ks]
      exact hq0 z z1 _ _ H1 (f.2.1 2 (by decide) (by decide))
    simp [g',z1,k50_0,k50_1,k50_2,ks]
    have d1:=h.hr H1
    have e11:A1 11=A 11:=H1.2.2.1 11 (by decide) (by decide)
    have e9:A1 9=A 9:=H1.2.2.1 9 (by decide) (by decide)
    refine bfW (V:=V) (E:=E) hq4 f.1 (S1.ef f) hE (by rw [e11]; exact h.ex q hq4 (by rw [hst]; decide)) (fun s2 A2 b2 => ?_)
    obtain ⟨b21,b22,b23,b24,b25,b26,b27,b28,b29,b2a⟩:=b2
    simp [k50_0,k50_1,k50_2,ks]
    have d2:DV s2 A2:=d1.fr b21 (fun j hj => b23 j (by omega) (by omega)) (fun i hi => b22 i (by omega) (by omega) (by omega))
    have k20:s2 20=s 20:=(b22 20 (by decide) (by decide) (by decide)).trans (H1.2.2.2 20 (by decide) (by decide) (by decide) (by decide))
    have k17:s2 17=s 17:=(b22 17 (by decide) (by decide) (by decide)).trans (H1.2.2.2 17 (by decide) (by decide) (by decide) (by decide))
    have k18:s2 18=s 18:=(b22 18 (by decide) (by decide) (by decide)).trans (H1.2.2.2 18 (by decide) (by decide) (by decide) (by decide))
    have k22:s1 22=s 22:=H1.2.2.2 22 (by decide) (by decide) (by decide) (by decide)
    have k2:s2 2=s 2:=(b22 2 (by decide) (by decide) (by decide)).trans (f.2.1 2 (by decide) (by decide))
    have HH:∀ s3 A3,SF s2 A2 s3 A3→∀ s4,(∀ i,i ≠ 2→s4 i=s3 i)→HF q s A s4 A3:=fun s3 A3 w s4 e4 => ⟨w.1.1,by rw [w.1.2 10 (by omega),b23 10 (by decide) (by decide)]; exact H1.2.1,fun j a c => by rw [w.1.2 j (by omega),b23 j (by omega) (by omega)]; exact H1.2.2.1 j a (by omega),fun i a c d k => ?_,by rw [e4 22 (by decide),w.2 22 (by omega),b24,k22]⟩
    · refine sfW d2 (fun n1 n2 s3 w w20 => ?_) (fun n s3 A3 w fw => ?_)
      · simp [k50_0,k50_1,k50_2,ks]
        rw [k20,k17] at n1
        rw [k18] at n2
        exact hqF z z1 n1 n2 _ _ (HH _ _ w _ (fun i hi => os_ne hi)) (by rw [os_ne (by decide),w20,k20])
      · have q9:=in9 w.1.1 (i:=q) hq4
        have e9':A3 9=A 9:=by rw [w.1.2 9 (by omega),b23 9 (by decide) (by decide),e9]
        rw [k20,k17,k18] at n
        have F:∀ s4,(∀ i,i ≠ 2→s4 i=s3 i)→FW (nI x) (nI q) (getA (A 11) (nI q) - 1) (MS (getA (A 11) (nI q)) E 4) (s 22+1) (VC (getA (A 11) (nI q)) V E 4) s4 A3:=by
          intro s4 e4
          obtain ⟨f1,a,f2,f3,f4,f5,f6,f7,f8,f9⟩:=fw
          refine ⟨by rw [e4 20 (by decide)]; exact f1,a,f2,by rw [e4 19 (by decide),e4 20 (by decide)]; exact f3,f4.trans b25,f5.trans b26,?_,?_,?_,fun c hc => ?_⟩
          · rw [f6,b27,e11]
          · rw [f7,b28,e11]
          · rw [f8,b29,k22]
          · rw [f9 c hc]; exact (b2a c hc).trans (by rw [e11])
        by_cases c3:getA (A 9) (nI q)=0
        · have c3':getA (A3 9) (nI q)=0:=by rw [e9']; exact c3
          simp [c3',q9,k50_0,k50_1,k50_2,ks]
          exact hqS z z1 n c3 _ _ (HH _ _ w _ (fun i hi => os_ne hi)) (F _ (fun i hi => os_ne hi)) rfl
        · have c3':¬ getA (A3 9) (nI q)=0:=by rw [e9']; exact c3
          simp [c3',q9,k50_0,k50_1,k50_2,ks]
          exact hqT z z1 n c3 _ _ (HH _ _ w _ (fun _ _ => rfl)) (F _ (fun _ _ => rfl)) (by rw [w.2 2 (by omega),k2])
    · rw [e4 i a,w.2 i (by omega),b22 i c d (by omega)]
      exact f.2.1 i c d
  · have g':¬ s1 16=0:=by rw [g]; exact z
    simp [g',k50_0,k50_1,k50_2,ks]
    refine hqE z _ _ ⟨H1.1,H1.2.1,H1.2.2.1,fun i a c d e => ?_⟩ ?_ rfl
    · rw [os_ne a,os_ne c]; exact H1.2.2.2 i a c d e
    · rw [os_ne (by decide),os_eq,g]
end Fr
def XS (s:Nat→Int32) (A:Nat→List Int32) (R M:List Int32) (p:Nat) (hh:Int32) (s':Nat→Int32) (A':Nat→List Int32):Prop:=LN A'∧s' 0=nI p∧s' 1=hh∧(∀ i,1 < i→i ≠ 3→s' i=s i)∧A' 0=R∧A' 1=M∧(∀ j,1 < j→A' j=A j)
def fin (hh:Int32):Int32:=if hh=0 then 0 else 1
def HT (q:Nat) (A A':Nat→List Int32):Prop:=getA (A' 10) (nI q)=getA (A 10) (nI q)+1
def NFr (s:Nat→Int32) (A:Nat→List Int32) (s':Nat→Int32) (A':Nat→List Int32):Prop:=s' 22=s 22∧s' 19=s 19∧s' 20=s 20∧s' 21=s 21∧∀ j,25≤j∧j≤30→A' j=A j
def RS (R M:List Int32) (p:Nat) (hh:Int32) (s':Nat→Int32) (A':Nat→List Int32):Prop:=A' 0=R∧A' 1=M∧s' 0=nI p∧s' 1=hh
def EH (s:Nat→Int32) (A:Nat→List Int32) (s':Nat→Int32) (A':Nat→List Int32):Prop:=LN A'∧(∀ i,i ≠ 6→i ≠ 15→i ≠ 16→s' i=s i)∧(∀ j,j ≠ 24→A' j=A j)
theorem evA (B:Nat→List Int32) {q:Nat} (hq4:q < 4):∃ V E:Nat→Int32,∀ j,j < 4→EV B q j (V j) (E j):=by
  have h:∀ j,∃ p:Int32 × Int32,j < 4→EV B q j p.1 p.2:=by
    intro j
    by_cases g:j < 4
    · obtain ⟨v,e,h⟩:=evX B hq4 g
      exact ⟨(v,e),fun _ => h⟩
    · exact ⟨(0,0),fun a => absurd a g⟩
  obtain ⟨f,hf⟩:=Classical.axiomOfChoice h
  exact ⟨fun j => (f j).1,fun j => (f j).2,hf⟩
section Run
variable {b:Nat}{pre post:AHeap}{Q:Option Value→AHeap→Prop}{s s' s'':Nat→Int32}{A A' A'' B:Nat→List Int32}{q x p:Nat}{V E:Nat→Int32}{R M:List Int32}{hh:Int32}
theorem DV.xs (h:DV s A) (g:XS s A R M p hh s' A') (hp:p < 32):DV s' A':=by
  refine ⟨g.1,⟨p,hp,g.2.1⟩,?_,?_,?_,?_,?_⟩
  · rw [g.2.2.2.2.2.2 7 (by decide),g.2.2.2.2.2.2 8 (by decide)]; exact h.uq
  · rw [g.2.2.2.2.2.2 7 (by decide),g.2.2.2.2.2.2 11 (by decide)]; exact h.ex
  · rw [g.2.2.2.2.2.2 7 (by decide),g.2.2.2.2.2.2 9 (by decide)]; exact h.md
  · rw [g.2.2.2.1 20 (by decide) (by decide)]; exact h.fh
  · rw [g.2.2.2.1 17 (by decide) (by decide)]; exact h.cp
theorem KP.xs (g:XS s A R M p hh s' A'):KP A A':=fun j hj => g.2.2.2.2.2.2 j (by omega)
theorem KP.hr (g:HR q s A s' A'):KP A A':=fun j hj => g.2.2.1 j (by omega) (by omega)
theorem KP.hf (g:HF q s A s' A'):KP A A':=fun j hj => g.2.2.1 j (by omega) (by omega)
theorem FW.mv {u v w m z:Int32}{W:Nat→Int32} (h:FW u v w m z W s A) (e:∀ i,i=19 ∨ i=20→s' i=s i) (g:∀ j,25≤j∧j≤30→A' j=A j):FW u v w m z W s' A':=by
  obtain ⟨f1,a,f2,f3,f4,f5,f6,f7,f8,f9⟩:=h
  refine ⟨by rw [e 20 (by omega)]; exact f1,a,f2,by rw [e 19 (by omega),e 20 (by omega)]; exact f3,?_,?_,?_,?_,?_,?_⟩
  · rw [g 25 (by omega)]; exact f4
  · rw [g 26 (by omega)]; exact f5
  · rw [g 27 (by omega)]; exact f6
  · rw [g 28 (by omega)]; exact f7
  · rw [g 29 (by omega)]; exact f8
  · rw [g 30 (by omega)]; exact f9
theorem HTx {l l':List Int32} (hq4:q < 4) (hl:l.length=4) (e:l'=setA l (nI q) (getA l (nI q)+1)):getA l' (nI q)=getA l (nI q)+1:=by rw [e,g4 hl hq4 hq4,if_pos rfl]
set_option maxRecDepth 1000000 in
set_option maxHeartbeats 20000000 in
theorem onE {l2 l3:Slot} (hX:EX B x R M p hh) (h:LN A) (hB:∀ j,j < 5→A j=B j) (h1:s 1=0) (hq:∀ s' A',XS s A R M p hh s' A'→Q (some (.int (fin hh))) (put (b+1) pre s' A' post)):M31 46 [.val (.ref (b+1)),.val (.int (nI x)),l2,l3] [] (put (b+1) pre s A post) Q:=by
  simp [k31_0,k31_1,ks]
  refine hX.2 _ _ _ _ _ _ h hB h1 (fun s1 A1 g => ?_)
  have g1:=g.2.2.1
  have H:XS s A R M p hh (ou s1 3 (s1 3+1)) A1:=⟨g.1,by rw [os_ne (by decide)]; exact g.2.1,by rw [os_ne (by decide)]; exact g1,fun i a c => by rw [os_ne c]; exact g.2.2.2.1 i a,g.2.2.2.2⟩
  have hq':=hq _ _ H
  unfold fin at hq'
  by_cases z:hh=0
  · rw [if_pos z] at hq'
    have g2:=g1.trans z
    simp [g2,k31_0,k31_1,ks]
    exact hq'
  · rw [if_neg z] at hq'
    have g2:¬ s1 1=0:=by rw [g1]; exact z
    simp [g2,k31_0,k31_1,ks]
    exact hq'
theorem onG (h:DV s A) (h1:s 1=0) (hq:∀ v s' A',DV s' A'→KP A A'→(v=0→s' 1=0)→Q (some (.int v)) (put (b+1) pre s' A' post)):M31 0 [.val (.ref (b+1)),.unset,.unset,.unset] [] (put (b+1) pre s A post) Q:=by
  obtain ⟨x,hx,h0⟩:=h.pc
  have mx:=m31 hx
  have T:∀ (l2 l3:Slot) (s1:Nat→Int32) (A1:Nat→List Int32),DV s1 A1→s1 1=0→KP A A1→M31 46 [.val (.ref (b+1)),.val (.int (nI x)),l2,l3] [] (put (b+1) pre s1 A1 post) Q:=by
    intro l2 l3 s1 A1 d1 z1 K1
    obtain ⟨R,M,p,hh,hX⟩:=exX A1 hx
    refine onE hX d1.ln (fun _ _ => rfl) z1 (fun s2 A2 g => hq _ _ _ (d1.xs g hX.1) (KP_t K1 (KP.xs g)) (fun e => ?_))
    rw [g.2.2.1]
    unfold fin at e
    by_cases z:hh=0
    · exact z
    · rw [if_neg z] at e; exact absurd e (by decide)
  by_cases h2:s 2=0
  · simp [h0,h2,mx,m31_0,m31_15,m31_20,m31_23,m31_25,m31_28u,m31_29,m31_33,m31_36,m31_39u,m31_40,m31_44,m31_45,m31_48,m31_51,k31_1,ks]
    refine atW h.ln (fun g => ?_) (fun q hq4 g1 g2 => ?_)
    · simp [m31_0,m31_15,m31_20,m31_23,m31_25,m31_28u,m31_29,m31_33,m31_36,m31_39u,m31_40,m31_44,m31_45,m31_48,m31_51,k31_1,ks]
      exact T _ _ s A h h1 KP_r
    · have n:(nI q < 0)=False:=nnF (by omega)
      simp [n,m31_0,m31_15,m31_20,m31_23,m31_25,m31_28u,m31_29,m31_33,m31_36,m31_39u,m31_40,m31_44,m31_45,m31_48,m31_51,k31_1,ks]
      obtain ⟨V,E,hE⟩:=evA A hq4
      refine ahW (V:=V) (E:=E) hq4 h g1 hE (fun _ s' A' r _ _ => ?_) (fun _ _ s' A' r _ => ?_) (fun _ _ _ _ s' A' r r20 => ?_) (fun _ _ _ _ s' A' r fw _ => ?_) (fun _ _ _ _ s' A' r fw _ => ?_)
      · simp [m31_0,m31_15,m31_20,m31_23,m31_25,m31_28u,m31_29,m31_33,m31_36,m31_39u,m31_40,m31_44,m31_45,m31_48,m31_51,k31_1,ks]; exact hq _ _ _ (h.hr r) (KP.hr r) (fun e => absurd e (by decide))
      · simp [m31_0,m31_15,m31_20,m31_23,m31_25,m31_28u,m31_29,m31_33,m31_36,m31_39u,m31_40,m31_44,m31_45,m31_48,m31_51,k31_1,ks]; exact T _ _ _ _ (h.hr r) ((r.2.2.2 1 (by decide) (by decide) (by decide) (by decide)).trans h1) (KP.hr r)
      · simp [m31_0,m31_15,m31_20,m31_23,m31_25,m31_28u,m31_29,m31_33,m31_36,m31_39u,m31_40,m31_44,m31_45,m31_48,m31_51,k31_1,ks]; exact hq _ _ _ (h.hf r (by rw [r20]; exact h.fh)) (KP.hf r) (fun e => absurd e (by decide))
      · simp [m31_0,m31_15,m31_20,m31_23,m31_25,m31_28u,m31_29,m31_33,m31_36,m31_39u,m31_40,m31_44,m31_45,m31_48,m31_51,k31_1,ks]; exact hq _ _ _ (h.hf r (by have:=fw.1; omega)) (KP.hf r) (fun e => absurd e (by decide))
      · simp [m31_0,m31_15,m31_20,m31_23,m31_25,m31_28u,m31_29,m31_33,m31_36,m31_39u,m31_40,m31_44,m31_45,m31_48,m31_51,k31_1,ks]; exact T _ _ _ _ (h.hf r (by have:=fw.1; omega)) ((r.2.2.2.1 1 (by decide) (by decide) (by decide) (by decide)).trans h1) (KP.hf r)
  · simp [h0,h2,mx,m31_0,m31_15,m31_20,m31_23,m31_25,m31_28u,m31_29,m31_33,m31_36,m31_39u,m31_40,m31_44,m31_45,m31_48,m31_51,k31_1,ks]
    exact T _ _ _ _ (h.w (by decide)) (by rw [os_ne (by decide)]; exact h1) KP_r
theorem rlG {n:Int32} (B:Nat→List Int32) (hq:∀ v s' A',DV s' A'→KP B A'→Q (some (.int v)) (put (b+1) pre s' A' post)):∀ (r i:Nat) (l3:Slot) (s:Nat→Int32) (A:Nat→List Int32),i+r=1000→okS l3→DV s A→s 1=0→KP B A→M30 2 [.val (.ref (b+1)),.val (.int (n)),.val (.int (nI i)),l3] [] (put (b+1) pre s A post) Q:=by
  intro r
  induction r with
  | zero =>
    intro i l3 s A e o3 h h1 K
    have c1:(nI i < 1000)=False:=lF (c:=1000) (by omega) (by omega)
    rw [m30_2]
    by_cases c2:nI i < n
    · simp [c1,c2,m30_0,k30_0,ks]; exact hq _ _ _ h K
    · simp [c2,m30_0,k30_0,ks]; exact hq _ _ _ h K
  | succ r ih =>
    intro i l3 s A e o3 h h1 K
    have c1:(nI i < 1000)=True:=lT (c:=1000) (by omega) (by decide)
    rw [m30_2]
    by_cases c2:nI i < n
    · simp [c1,c2,m30_0,k30_0,ks]
      refine onG h h1 (fun v s1 A1 d1 K1 z1 => ?_)
      by_cases z:v=0
      · simp [z,o3,nI_1,m30_0,k30_0,ks]
        exact ih (i+1) _ _ _ (by omega) (okS_i _) d1 (z1 z) (KP_t K K1)
      · simp [z,o3,m30_0,k30_0,ks]
        exact hq _ _ _ d1 (KP_t K K1)
    · simp [c2,m30_0,k30_0,ks]; exact hq _ _ _ h K
theorem rgW {n:Int32} (h:DV s A) (hq:∀ v s' A',DV s' A'→KP A A'→Q (some (.int v)) (put (b+1) pre s' A' post)):M29 0 [.val (.ref (b+1)),.val (.int (n)),.unset,.unset] [] (put (b+1) pre s A post) Q:=by
  by_cases c1:n < 1
  · simp [c1,k29_0,ks]; exact hq _ _ _ h KP_r
  have T:∀ m:Int32,M29 21 [.val (.ref (b+1)),.val (.int (n)),.unset,.unset] [.int m] (put (b+1) pre s A post) Q:=by
    intro m
    by_cases c2:s 1=0
    · simp [c2,k29_0,ks,m30_0,k30_0,ks]
      refine rlG A (fun v s' A' d K => ?_) 1000 0 _ _ _ (by omega) okS_u ((h.w (by decide)).w (by decide)) c2 KP_r
      simp [k29_0,ks]
      exact hq _ _ _ (d.w (by decide)) K
    · simp [c2,k29_0,ks]
      exact hq _ _ _ (((h.w (by decide)).w (by decide)).w (by decide)) KP_r
  by_cases c2:1000 < n
  · simp [c1,c2,m29_0,m29_5,m29_6,m29_7,m29_14,m29_20,m29_22,m29_27,m29_32,m29_41,m29_43,m29_46i,m29_47,m29_52,m29_53,ks]; exact T _
  · simp [c1,c2,m29_0,m29_5,m29_6,m29_7,m29_14,m29_20,m29_22,m29_27,m29_32,m29_41,m29_43,m29_46i,m29_47,m29_52,m29_53,ks]; exact T _
theorem rtW (hx:x < 32) (hX:EX B x R M p hh) (h:LN A) (hB:∀ j,j < 5→A j=B j) (h0:s 0=nI x) (h1:s 1=0) (h2:s 2=0) (hn:∀ p,p < 4→getA (A 7) (nI p) ≠ 2) (hq:∀ s' A',LN A'→RS R M p hh s' A'→(∀ j,1 < j→A' j=A j)→Q (some (.int (fin hh))) (put (b+1) pre s' A' post)):M29 0 [.val (.ref (b+1)),.val (.int 1),.unset,.unset] [] (put (b+1) pre s A post) Q:=by
  have mx:=m31 hx
  simp [h1,k29_0,ks,m30_0,m30_2,k30_0,ks,h0,h2,mx,m31_0,m31_15,m31_20,m31_23,m31_25,m31_28u,m31_29,m31_33,m31_36,m31_39u,m31_40,m31_44,m31_45,m31_48,m31_51,k31_1,ks]
  refine atW h (fun g => ?_) (fun q hq4 g1 g2 => absurd g1 (hn q hq4))
  simp [m31_0,m31_15,m31_20,m31_23,m31_25,m31_28u,m31_29,m31_33,m31_36,m31_39u,m31_40,m31_44,m31_45,m31_48,m31_51,k31_1,ks]
  refine onE hX h hB h1 (fun s1 A1 g => ?_)
  have hq':=hq (ou s1 4 (fin hh)) A1 g.1 ⟨g.2.2.2.2.1,g.2.2.2.2.2.1,by rw [os_ne (by decide)]; exact g.2.1,by rw [os_ne (by decide)]; exact g.2.2.1⟩ g.2.2.2.2.2.2
  by_cases z:fin hh=0
  · rw [z] at hq' ⊢
    simp [k29_0,ks,m30_0,m30_2,k30_0,ks]
    exact hq'
  · simp [z,k29_0,ks,m30_0,m30_2,k30_0,ks]
    exact hq'
set_option maxRecDepth 1000000 in
set_option maxHeartbeats 20000000 in
theorem rdW (hq4:q < 4) (h:DV s A) (hx:x < 32) (h0:s 0=nI x) (h1:s 1=0) (h2:s 2=0) (hst:getA (A 7) (nI q)=2) (had:getA (A 8) (nI q)=nI x) (hE:∀ j,j < 4→EV A q j (V j) (E j)) (hX:EX A x R M p hh) (nf:s 20 < s 17 ∨ s 18=0)
    (kE:E 0 ≠ 0→∀ s' A',DV s' A'→KP A A'→HT q A A'→NFr s A s' A'→RS (A 0) (A 1) x 0 s' A'→s' 5=E 0→Q (some (.int 4)) (put (b+1) pre s' A' post))
    (k0:E 0=0→V 0=0→∀ s' A',DV s' A'→KP A A'→HT q A A'→NFr s A s' A'→RS R M p hh s' A'→Q (some (.int (fin hh))) (put (b+1) pre s' A' post))
    (kS:E 0=0→V 0 ≠ 0→getA (A 9) (nI q)=0→∀ s' A',DV s' A'→KP A A'→HT q A A'→s' 22=s 22+1→FW (nI x) (nI q) (getA (A 11) (nI q) - 1) (MS (getA (A 11) (nI q)) E 4) (s 22+1) (VC (getA (A 11) (nI q)) V E 4) s' A'→RS (A 0) (A 1) x 0 s' A'→s' 2=1→Q (some (.int 2)) (put (b+1) pre s' A' post))
    (kT:E 0=0→V 0 ≠ 0→¬ getA (A 9) (nI q)=0→∀ s' A',DV s' A'→KP A A'→HT q A A'→s' 22=s 22+1→FW (nI x) (nI q) (getA (A 11) (nI q) - 1) (MS (getA (A 11) (nI q)) E 4) (s 22+1) (VC (getA (A 11) (nI q)) V E 4) s' A'→RS R M p hh s' A'→Q (some (.int (fin hh))) (put (b+1) pre s' A' post)) :
    M29 0 [.val (.ref (b+1)),.val (.int 1),.unset,.unset] [] (put (b+1) pre s A post) Q:=by
  have mx:=m31 hx
  have l10:=ln10 h.ln
  simp [h1,k29_0,ks,m30_0,m30_2,k30_0,ks,h0,h2,mx,m31_0,m31_15,m31_20,m31_23,m31_25,m31_28u,m31_29,m31_33,m31_36,m31_39u,m31_40,m31_44,m31_45,m31_48,m31_51,k31_1,ks]
  have d0:DV (ou (ou s 3 0) 5 0) A:=(h.w (by decide)).w (by decide)
  refine atW h.ln (fun g => absurd had (g q hq4 hst)) (fun r hr g1 g2 => ?_)
  obtain rfl:r=q:=h.uq r q hr hq4 g1 hst (g2.trans had.symm)
  have n:(nI r < 0)=False:=nnF (by omega)
  simp [n,m31_0,m31_15,m31_20,m31_23,m31_25,m31_28u,m31_29,m31_33,m31_36,m31_39u,m31_40,m31_44,m31_45,m31_48,m31_51,k31_1,ks]
  refine ahW (V:=V) (E:=E) hq4 d0 hst hE (fun z s1 A1 a e5 _ => ?_) (fun z z1 s1 A1 a _ => ?_) (fun _ _ n1 n2 => ?_) (fun z z1 _ m s1 A1 a fw e2 => ?_) (fun z z1 _ m s1 A1 a fw _ => ?_)
  · simp [k29_0,ks,m30_0,m30_2,k30_0,ks,k31_0,k31_1,ks]
    refine kE z _ _ ((d0.hr a).w (by decide)) (KP.hr a) (HTx hq4 l10 a.2.1) ⟨?_,?_,?_,?_,fun j hj => a.2.2.1 j (by omega) (by omega)⟩ ⟨a.2.2.1 0 (by decide) (by decide),a.2.2.1 1 (by decide) (by decide),?_,?_⟩ (by rw [os_ne (by decide)]; exact e5)
    all_goals rw [os_ne (by decide),a.2.2.2 _ (by decide) (by decide) (by decide) (by decide),os_ne (by decide),os_ne (by decide)]
    · exact h0
    · exact h1
  · simp [k29_0,ks,m30_0,m30_2,k30_0,ks,m31_0,m31_15,m31_20,m31_23,m31_25,m31_28u,m31_29,m31_33,m31_36,m31_39u,m31_40,m31_44,m31_45,m31_48,m31_51,k31_1,ks]
    refine onE hX a.1 (fun j hj => a.2.2.1 j (by omega) (by omega)) ((a.2.2.2 1 (by decide) (by decide) (by decide) (by decide)).trans h1) (fun s2 A2 g => ?_)
    have d2:=(d0.hr a).xs g hX.1
    have Z:Q (some (.int (fin hh))) (put (b+1) pre (ou s2 4 (fin hh)) A2 post):=by
      refine k0 z z1 _ _ (d2.w (by decide)) (KP_t (KP.hr a) (KP.xs g)) ?_ ⟨?_,?_,?_,?_,fun j hj => ?_⟩ ⟨g.2.2.2.2.1,g.2.2.2.2.2.1,by rw [os_ne (by decide)]; exact g.2.1,by rw [os_ne (by decide)]; exact g.2.2.1⟩
      · exact (congrArg (fun l => getA l (nI r)) (g.2.2.2.2.2.2 10 (by decide))).trans (HTx hq4 l10 a.2.1)
      · rw [os_ne (by decide),g.2.2.2.1 _ (by decide) (by decide),a.2.2.2 _ (by decide) (by decide) (by decide) (by decide),os_ne (by decide),os_ne (by decide)]
      · rw [os_ne (by decide),g.2.2.2.1 _ (by decide) (by decide),a.2.2.2 _ (by decide) (by decide) (by decide) (by decide),os_ne (by decide),os_ne (by decide)]
      · rw [os_ne (by decide),g.2.2.2.1 _ (by decide) (by decide),a.2.2.2 _ (by decide) (by decide) (by decide) (by decide),os_ne (by decide),os_ne (by decide)]
      · rw [os_ne (by decide),g.2.2.2.1 _ (by decide) (by decide),a.2.2.2 _ (by decide) (by decide) (by decide) (by decide),os_ne (by decide),os_ne (by decide)]
      · rw [g.2.2.2.2.2.2 j (by omega)]; exact a.2.2.1 j (by omega) (by omega)
    by_cases zf:fin hh=0
    · rw [zf] at Z ⊢; simp [k29_0,ks,m30_0,m30_2,k30_0,ks]; exact Z
    · simp [zf,k29_0,ks,m30_0,m30_2,k30_0,ks]; exact Z
  · rcases nf with g | g
    · exact absurd g n1
    · exact absurd g n2
  · simp [k29_0,ks,m30_0,m30_2,k30_0,ks,k31_0,k31_1,ks]
    refine kS z z1 m _ _ ((d0.hf a (by have:=fw.1; omega)).w (by decide)) (KP.hf a) (HTx hq4 l10 a.2.1) (by rw [os_ne (by decide)]; exact a.2.2.2.2) (fw.mv (fun i hi => os_ne (by omega)) (fun _ _ => rfl)) ⟨a.2.2.1 0 (by decide) (by decide),a.2.2.1 1 (by decide) (by decide),?_,?_⟩ (by rw [os_ne (by decide)]; exact e2)
    · rw [os_ne (by decide),a.2.2.2.1 _ (by decide) (by decide) (by decide) (by decide)]; exact h0
    · rw [os_ne (by decide),a.2.2.2.1 _ (by decide) (by decide) (by decide) (by decide)]; exact h1
  · simp [k29_0,ks,m30_0,m30_2,k30_0,ks,m31_0,m31_15,m31_20,m31_23,m31_25,m31_28u,m31_29,m31_33,m31_36,m31_39u,m31_40,m31_44,m31_45,m31_48,m31_51,k31_1,ks]
    refine onE hX a.1 (fun j hj => a.2.2.1 j (by omega) (by omega)) ((a.2.2.2.1 1 (by decide) (by decide) (by decide) (by decide)).trans h1) (fun s2 A2 g => ?_)
    have d2:=(d0.hf a (by have:=fw.1; omega)).xs g hX.1
    have Z:Q (some (.int (fin hh))) (put (b+1) pre (ou s2 4 (fin hh)) A2 post):=by
      refine kT z z1 m _ _ (d2.w (by decide)) (KP_t (KP.hf a) (KP.xs g)) ?_ ?_ (fw.mv (fun i hi => ?_) (fun j hj => g.2.2.2.2.2.2 j (by omega))) ⟨g.2.2.2.2.1,g.2.2.2.2.2.1,by rw [os_ne (by decide)]; exact g.2.1,by rw [os_ne (by decide)]; exact g.2.2.1⟩
      · exact (congrArg (fun l => getA l (nI r)) (g.2.2.2.2.2.2 10 (by decide))).trans (HTx hq4 l10 a.2.1)
      · rw [os_ne (by decide),g.2.2.2.1 _ (by decide) (by decide)]; exact a.2.2.2.2
      · rw [os_ne (by omega),g.2.2.2.1 _ (by omega) (by omega)]
    by_cases zf:fin hh=0
    · rw [zf] at Z ⊢; simp [k29_0,ks,m30_0,m30_2,k30_0,ks]; exact Z
    · simp [zf,k29_0,ks,m30_0,m30_2,k30_0,ks]; exact Z
theorem heW {j:Nat}{v e:Int32} (hq4:q < 4) (hj4:j < 4) (hE:EV B q j v e) (h:LN A) (m:SM B A) (hst:¬ getA (A 7) (nI q)=0) (hk:nI j < getA (A 11) (nI q)) (hq:∀ s' A',EH s A s' A'→s' 6=e→Q (some (.int (if e=0 then v else 0))) (put (b+1) pre s' A' post)):M40 0 [.val (.ref (b+1)),.val (.int (nI q)),.val (.int (nI j)),.unset] [] (put (b+1) pre s A post) Q:=by
  have c1:(nI q < 0)=False:=nnF (by omega)
  have c2:=g3F hq4
  have c3:(nI j < 0)=False:=nnF (by omega)
  have q1:=in7 h hq4
  have q2:=in11 h hq4
  simp [c1,c2,c3,q1,q2,hst,hk,k40_0,ks,k41_0,ks,k2_0,ks]
  refine hE _ _ _ _ _ _ h m (fun s1 A1 f g => ?_)
  have H:EH s A (ou s1 6 e) A1:=⟨f.1,fun i a c d => by rw [os_ne a]; exact f.2.1 i c d,f.2.2⟩
  have hq':=hq _ _ H os_eq
  by_cases z:e=0
  · rw [if_pos z,z] at hq'
    have g':=g.trans z
    simp [g',k40_0,ks]
    exact hq'
  · rw [if_neg z] at hq'
    have g':¬ s1 16=0:=by rw [g]; exact z
    simp [g',k40_0,ks]
    rw [g]
    exact hq'
end Run
def tl (s:Nat→Int32) (A:Nat→List Int32):AHeap:=((.object "AgentExprDbg", objv 34 s)::(.array .int,(A 0).map Value.int)::(.array .int,(A 1).map Value.int)::(.array .int,(A 2).map Value.int)::(.array .int,(A 3).map Value.int)::(.array .int,(A 4).map Value.int)::(.array .int,(A 5).map Value.int)::(.array .int,(A 6).map Value.int)::(.array .int,(A 7).map Value.int)::(.array .int,(A 8).map Value.int)::(.array .int,(A 9).map Value.int)::(.array .int,(A 10).map Value.int)::(.array .int,(A 11).map Value.int)::(.array .int,(A 12).map Value.int)::(.array .int,(A 13).map Value.int)::(.array .int,(A 14).map Value.int)::(.array .int,(A 15).map Value.int)::(.array .int,(A 16).map Value.int)::(.array .int,(A 17).map Value.int)::(.array .int,(A 18).map Value.int)::(.array .int,(A 19).map Value.int)::(.array .int,(A 20).map Value.int)::(.array .int,(A 21).map Value.int)::(.array .int,(A 22).map Value.int)::(.array .int,(A 23).map Value.int)::(.array .int,(A 24).map Value.int)::(.array .int,(A 25).map Value.int)::(.array .int,(A 26).map Value.int)::(.array .int,(A 27).map Value.int)::(.array .int,(A 28).map Value.int)::(.array .int,(A 29).map Value.int)::(.array .int,(A 30).map Value.int)::(.array .int,(A 31).map Value.int)::[])
theorem vw {p:AHeap}{s t:Nat→Int32}{A B:Nat→List Int32}:put 1 p s A (tl t B)=put 34 (put 1 p s A []) t B []:=by
  have hl:(put 1 p s A []).length=34:=by rw [put_len]; rfl
  have e:put 34 (put 1 p s A []) t B []=put 1 p s A [] ++ tl t B:=by
    show pad 34 (put 1 p s A []) ++ tl t B=_
    rw [pad_eq hl]
  rw [e]
  simp only [put,List.append_assoc,List.cons_append,List.nil_append]
def PRo (l m:Slot):Prop:=(l=.unset∧m=.unset) ∨ ∃ w:Int64,l=.val (.long w)∧m=.second
theorem mdX (a:Int32) {m:Int32}{n:Nat} (hm:m.toInt=n) (h0:0 < n) (h1:n≤64):∃ k,k < n∧∀ (H:AHeap) (Q:Option Value→AHeap→Prop),Q (some (.int (nI k))) H→M66 0 [.val (.int a),.val (.int m),.unset] [] H Q:=by
  have z:¬ m=0:=fun e => by rw [e,i_0] at hm; omega
  have e1:(a % m).toInt=a.toInt.tmod n:=by rw [Int32.toInt_mod,hm]
  have b1:(a % m).toInt < n:=by rw [e1]; exact Int.tmod_lt_of_pos _ (by omega)
  have b2:-(n:Int) < (a % m).toInt:=by
    rw [e1]
    have:=Int.lt_tmod_of_pos a.toInt (b:=(n:Int)) (by omega)
    omega
  by_cases g:a % m < 0
  · have g1:=lti g
    rw [i_0] at g1
    have e2:(a % m+m).toInt=(a % m).toInt+n:=by rw [add_i (by omega) (by omega),hm]
    obtain ⟨k,hk,e⟩:=rgN (x:=a % m+m) (n:=n) (by omega) (by omega)
    refine ⟨k,hk,fun H Q hq => ?_⟩
    simp [z,g,k66_0,ks]
    rw [e]; exact hq
  · have g1:=nlti g
    rw [i_0] at g1
    obtain ⟨k,hk,e⟩:=rgN (x:=a % m) (n:=n) (by omega) (by omega)
    refine ⟨k,hk,fun H Q hq => ?_⟩
    simp [z,g,k66_0,ks]
    rw [e]; exact hq
theorem clX (vs:List Int32) (hl:vs.length≤1000) {p:Nat} (hp:p < 1000):∃ v:Int32,∀ (s:Nat→Int32) (A:Nat→List Int32) (post:AHeap) (Q:Option Value→AHeap→Prop),Q (some (.int v)) (put 1 [((FieldType.array .int,vs.map Value.int):FieldType × List Value)] s A post)→M65 0 [.val (.ref 0),.val (.int (nI p))] [] (put 1 [((FieldType.array .int,vs.map Value.int):FieldType × List Value)] s A post) Q:=by
  have e:(vs.length.toInt32).toInt=vs.length:=len_toInt (by omega)
  have e2:=nI_int (n:=p) (by omega)
  by_cases g:nI p < vs.length.toInt32
  · have g1:=lti g
    have q1:inB (nI p) vs:=by rw [inB_iff]; omega
    exact ⟨getA vs (nI p),fun s A post Q hq => by simp [g,q1,k65_0,ks]; exact hq⟩
  · exact ⟨0,fun s A post Q hq => by simp [g,k65_0,ks]; exact hq⟩
def JV (s:Nat→Int32) (A:Nat→List Int32) (t:Nat→Int32) (B:Nat→List Int32):Prop:=DV s A∧LN B∧KP A B∧∀ p,p < 4→getA (B 7) (nI p) ≠ 2
theorem JV.d {s s' t:Nat→Int32}{A A' B:Nat→List Int32} (h:JV s A t B) (d:DV s' A') (k:KP A A'):JV s' A' t B:=⟨d,h.2.1,fun j hj => (h.2.2.1 j hj).trans (k j hj).symm,h.2.2.2⟩
def OKL (l4 l5 l6 l7 l8 l9 l10 l11 l12 l13 l14 l15 l16 l17 l18 l19 l20 l21 l22 l23 l24 l25 l26 l27 l28:Slot):Prop:=okS l4∧okS l5∧okS l6∧okS l7∧okS l8∧okS l9∧okS l10∧okS l11∧okS l12∧okS l13∧okS l14∧okS l15∧okS l16∧okS l17∧okS l18∧okS l19∧okS l22∧okS l23∧okS l24∧okS l27∧okS l28∧PRo l20 l21∧PRo l25 l26
def LP (vs:List Int32) (Q:Option Value→AHeap→Prop) (n:Nat):Prop:=∀ (p:Nat) (l4 l5 l6 l7 l8 l9 l10 l11 l12 l13 l14 l15 l16 l17 l18 l19 l20 l21 l22 l23 l24 l25 l26 l27 l28:Slot) (s t:Nat→Int32) (A B:Nat→List Int32),JV s A t B→OKL l4 l5 l6 l7 l8 l9 l10 l11 l12 l13 l14 l15 l16 l17 l18 l19 l20 l21 l22 l23 l24 l25 l26 l27 l28→vs.length≤p+n→p≤400→M67 30 [.val (.ref 0),.val (.ref 1),.val (.ref 34),.val (.int (nI p)),l4,l5,l6,l7,l8,l9,l10,l11,l12,l13,l14,l15,l16,l17,l18,l19,l20,l21,l22,l23,l24,l25,l26,l27,l28] [] (put 1 [((FieldType.array .int,vs.map Value.int):FieldType × List Value)] s A (tl t B)) Q
section Law
variable {vs:List Int32}{Q:Option Value→AHeap→Prop}{n p:Nat}{s t:Nat→Int32}{A B:Nat→List Int32}{l3 l4 l5 l6 l7 l8 l9 l10 l11 l12 l13 l14 l15 l16 l17 l18 l19 l20 l21 l22 l23 l24 l25 l26 l27 l28:Slot}
theorem nI_1' (a:Nat):1+nI a=nI (a+1):=by rw [Int32.add_comm]; exact nI_1 a
theorem z_n0:nI 0=0:=rfl
theorem z_n1:nI 1=1:=rfl
theorem z_n2:nI 2=2:=rfl
theorem z_n3:nI 3=3:=rfl
theorem z_n4:nI 4=4:=rfl
theorem z_n5:nI 5=5:=rfl
theorem z_n6:nI 6=6:=rfl
theorem z_n7:nI 7=7:=rfl
set_option maxRecDepth 1000000 in
set_option maxHeartbeats 20000000 in
theorem op7 {c:Int32} (lp:LP vs Q n) (hl:vs.length≤260) (J:JV s A t B) (o:OKL l4 l5 l6 l7 l8 l9 l10 l11 l12 l13 l14 l15 l16 l17 l18 l19 l20 l21 l22 l23 l24 l25 l26 l27 l28) (hp:p < 300) (hn:vs.length≤p+n):M67 61 [.val (.ref 0),.val (.ref 1),.val (.ref 34),.val (.int (nI p)),.val (.int (7:Int32)),.val (.int c),l6,l7,l8,l9,l10,l11,l12,l13,l14,l15,l16,l17,l18,l19,l20,l21,l22,l23,l24,l25,l26,l27,l28] [] (put 1 [((FieldType.array .int,vs.map Value.int):FieldType × List Value)] s A (tl t B)) Q:=by
  obtain ⟨o4,o5,o6,o7,o8,o9,o10,o11,o12,o13,o14,o15,o16,o17,o18,o19,o22,o23,o24,o27,o28,o20,o25⟩:=o
  obtain ⟨k,hk,hm⟩:=mdX c (m:=5) (n:=5) rfl (by decide) (by decide)
  simp [m67_61,m67_186,m67_275,m67_666,m67_704,m67_808,m67_815,m67_816,m67_820,m67_823,m67_824,m67_827,m67_828,ks]
  refine hm _ _ ?_
  simp [m67_808,m67_815,m67_816,m67_820,m67_823,m67_824,m67_827,m67_828,ks]
  refine rgW J.1 (fun v s' A' d K => ?_)
  simp [m67_827,m67_828,m67_1799,ks]
  refine lp _ _ _ _ _ _ _ _ _ _ _ _ _ _ _ _ _ _ _ _ _ _ _ _ _ _ _ _ _ _ (J.d d K) ?_ (by omega) (by omega)
  refine ⟨?_,?_,?_,?_,?_,?_,?_,?_,?_,?_,?_,?_,?_,?_,?_,?_,?_,?_,?_,?_,?_,?_,?_⟩ <;> first | assumption | exact okS_i _ | exact Or.inr ⟨_,rfl,rfl⟩
theorem op3 {c:Int32} (lp:LP vs Q n) (hl:vs.length≤260) (J:JV s A t B) (o:OKL l4 l5 l6 l7 l8 l9 l10 l11 l12 l13 l14 l15 l16 l17 l18 l19 l20 l21 l22 l23 l24 l25 l26 l27 l28) (hp:p < 300) (hn:vs.length≤p+n):M67 61 [.val (.ref 0),.val (.ref 1),.val (.ref 34),.val (.int (nI p)),.val (.int (3:Int32)),.val (.int c),l6,l7,l8,l9,l10,l11,l12,l13,l14,l15,l16,l17,l18,l19,l20,l21,l22,l23,l24,l25,l26,l27,l28] [] (put 1 [((FieldType.array .int,vs.map Value.int):FieldType × List Value)] s A (tl t B)) Q:=by
  obtain ⟨o4,o5,o6,o7,o8,o9,o10,o11,o12,o13,o14,o15,o16,o17,o18,o19,o22,o23,o24,o27,o28,o20,o25⟩:=o
  obtain ⟨k1,hk1,hm1⟩:=mdX c (m:=4) (n:=4) rfl (by decide) (by decide)
  obtain ⟨k2,hk2,hm2⟩:=mdX (c >>> (2 &&& 31)) (m:=32) (n:=32) rfl (by decide) (by decide)
  obtain ⟨k3,hk3,hm3⟩:=mdX (c >>> (7 &&& 31)) (m:=2) (n:=2) rfl (by decide) (by decide)
  simp [m67_61,m67_186,m67_275,m67_666,m67_672,m67_673,m67_676,m67_679,m67_685,m67_688,m67_694,m67_697,m67_700,m67_701,ks]
  refine hm1 _ _ ?_
  simp [m67_666,m67_672,m67_673,m67_676,m67_679,m67_685,m67_688,m67_694,m67_697,m67_700,m67_701,ks]
  refine hm2 _ _ ?_
  simp [m67_666,m67_672,m67_673,m67_676,m67_679,m67_685,m67_688,m67_694,m67_697,m67_700,m67_701,ks]
  refine hm3 _ _ ?_
  simp [m67_666,m67_672,m67_673,m67_676,m67_679,m67_685,m67_688,m67_694,m67_697,m67_700,m67_701,ks]
  refine isW hk1 J.1 (fun v s' A' d K => ?_)
  simp [m67_666,m67_672,m67_673,m67_676,m67_679,m67_685,m67_688,m67_694,m67_697,m67_700,m67_701,m67_1799,ks]
  refine lp _ _ _ _ _ _ _ _ _ _ _ _ _ _ _ _ _ _ _ _ _ _ _ _ _ _ _ _ _ _ (J.d d K) ?_ (by omega) (by omega)
  refine ⟨?_,?_,?_,?_,?_,?_,?_,?_,?_,?_,?_,?_,?_,?_,?_,?_,?_,?_,?_,?_,?_,?_,?_⟩ <;> first | assumption | exact okS_i _ | exact Or.inr ⟨_,rfl,rfl⟩
theorem op6 {c:Int32} (lp:LP vs Q n) (hl:vs.length≤260) (J:JV s A t B) (o:OKL l4 l5 l6 l7 l8 l9 l10 l11 l12 l13 l14 l15 l16 l17 l18 l19 l20 l21 l22 l23 l24 l25 l26 l27 l28) (hp:p < 300) (hn:vs.length≤p+n):M67 61 [.val (.ref 0),.val (.ref 1),.val (.ref 34),.val (.int (nI p)),.val (.int (6:Int32)),.val (.int c),l6,l7,l8,l9,l10,l11,l12,l13,l14,l15,l16,l17,l18,l19,l20,l21,l22,l23,l24,l25,l26,l27,l28] [] (put 1 [((FieldType.array .int,vs.map Value.int):FieldType × List Value)] s A (tl t B)) Q:=by
  obtain ⟨o4,o5,o6,o7,o8,o9,o10,o11,o12,o13,o14,o15,o16,o17,o18,o19,o22,o23,o24,o27,o28,o20,o25⟩:=o
  obtain ⟨k,hk,hm⟩:=mdX c (m:=4) (n:=4) rfl (by decide) (by decide)
  simp [m67_61,m67_186,m67_275,m67_666,m67_704,m67_711,m67_714,m67_717g,ks]
  refine hm _ _ ?_
  obtain ⟨k1,hk1,hm1⟩:=mdX (c >>> (2 &&& 31)) (m:=4) (n:=4) rfl (by decide) (by decide)
  obtain ⟨k2,hk2,hm2⟩:=mdX (c >>> (2 &&& 31)) (m:=32) (n:=32) rfl (by decide) (by decide)
  obtain ⟨k3,hk3,hm3⟩:=mdX (c >>> (4 &&& 31)) (m:=2) (n:=2) rfl (by decide) (by decide)
  rcases (by omega:k=0 ∨ k=1 ∨ k=2 ∨ k=3) with rfl | rfl | rfl | rfl
  · simp [o6,z_n0,m67_717g,m67_719,m67_724,m67_725,m67_730,m67_733,m67_736,m67_737,ks]
    refine hm1 _ _ ?_
    simp [m67_717g,m67_719,m67_724,m67_725,m67_730,m67_733,m67_736,m67_737,ks]
    refine unW hk1 J.1 (fun v s' A' d K => ?_)
    simp [m67_717g,m67_719,m67_724,m67_725,m67_730,m67_733,m67_736,m67_737,m67_805,m67_1799,ks]
    refine lp _ _ _ _ _ _ _ _ _ _ _ _ _ _ _ _ _ _ _ _ _ _ _ _ _ _ _ _ _ _ (J.d d K) ?_ (by omega) (by omega)
    refine ⟨?_,?_,?_,?_,?_,?_,?_,?_,?_,?_,?_,?_,?_,?_,?_,?_,?_,?_,?_,?_,?_,?_,?_⟩ <;> first | assumption | exact okS_i _ | exact Or.inr ⟨_,rfl,rfl⟩
  · simp [o6,z_n1,m67_717g,m67_719,m67_740,m67_746,m67_747,m67_750,ks,k56_0]
    simp [m67_805,m67_1799,ks]
    refine lp _ _ _ _ _ _ _ _ _ _ _ _ _ _ _ _ _ _ _ _ _ _ _ _ _ _ _ _ _ _ (J.d ⟨J.1.ln,J.1.pc,J.1.uq,J.1.ex,J.1.md,by show (0:Int)≤(0:Int32).toInt; decide,J.1.cp⟩ KP_r) ?_ (by omega) (by omega)
    refine ⟨?_,?_,?_,?_,?_,?_,?_,?_,?_,?_,?_,?_,?_,?_,?_,?_,?_,?_,?_,?_,?_,?_,?_⟩ <;> first | assumption | exact okS_i _ | exact Or.inr ⟨_,rfl,rfl⟩
  · simp [o6,z_n2,m67_717g,m67_719,m67_740,m67_753,m67_759,m67_760,m67_768,m67_771,m67_774,m67_775,ks]
    refine hm2 _ _ ?_
    simp [m67_753,m67_759,m67_760,m67_768,m67_771,m67_774,m67_775,ks]
    refine srW J.1 (fun v s' A' d K => ?_)
    simp [m67_753,m67_759,m67_760,m67_768,m67_771,m67_774,m67_775,m67_805,m67_1799,ks]
    refine lp _ _ _ _ _ _ _ _ _ _ _ _ _ _ _ _ _ _ _ _ _ _ _ _ _ _ _ _ _ _ (J.d d K) ?_ (by omega) (by omega)
    refine ⟨?_,?_,?_,?_,?_,?_,?_,?_,?_,?_,?_,?_,?_,?_,?_,?_,?_,?_,?_,?_,?_,?_,?_⟩ <;> first | assumption | exact okS_i _ | exact Or.inr ⟨_,rfl,rfl⟩
  · simp [o6,z_n3,m67_717g,m67_719,m67_740,m67_753,m67_778,m67_779,m67_784,m67_787,m67_788,m67_790,m67_793,m67_798,m67_801,m67_804,m67_805,ks]
    refine hm1 _ _ ?_
    simp [m67_778,m67_779,m67_784,m67_787,m67_788,m67_790,m67_793,m67_798,m67_801,m67_804,m67_805,ks,k34_0,k2_0]
    refine hm3 _ _ ?_
    simp [m67_778,m67_779,m67_784,m67_787,m67_788,m67_790,m67_793,m67_798,m67_801,m67_804,m67_805,ks]
    refine isW hk1 J.1 (fun v s' A' d K => ?_)
    simp [m67_778,m67_779,m67_784,m67_787,m67_788,m67_790,m67_793,m67_798,m67_801,m67_804,m67_805,m67_1799,ks]
    refine lp _ _ _ _ _ _ _ _ _ _ _ _ _ _ _ _ _ _ _ _ _ _ _ _ _ _ _ _ _ _ (J.d d K) ?_ (by omega) (by omega)
    refine ⟨?_,?_,?_,?_,?_,?_,?_,?_,?_,?_,?_,?_,?_,?_,?_,?_,?_,?_,?_,?_,?_,?_,?_⟩ <;> first | assumption | exact okS_i _ | exact Or.inr ⟨_,rfl,rfl⟩
theorem op1 {c:Int32} (lp:LP vs Q n) (hl:vs.length≤260) (J:JV s A t B) (o:OKL l4 l5 l6 l7 l8 l9 l10 l11 l12 l13 l14 l15 l16 l17 l18 l19 l20 l21 l22 l23 l24 l25 l26 l27 l28) (hp:p < 300) (hn:vs.length≤p+n):M67 61 [.val (.ref 0),.val (.ref 1),.val (.ref 34),.val (.int (nI p)),.val (.int (1:Int32)),.val (.int c),l6,l7,l8,l9,l10,l11,l12,l13,l14,l15,l16,l17,l18,l19,l20,l21,l22,l23,l24,l25,l26,l27,l28] [] (put 1 [((FieldType.array .int,vs.map Value.int):FieldType × List Value)] s A (tl t B)) Q:=by
  obtain ⟨o4,o5,o6,o7,o8,o9,o10,o11,o12,o13,o14,o15,o16,o17,o18,o19,o22,o23,o24,o27,o28,o20,o25⟩:=o
  obtain ⟨w,hw⟩:=clX vs (by omega) (p:=p) (by omega)
  have T:∀ (w v:Int32),M67 228 [.val (.ref 0),.val (.ref 1),.val (.ref 34),.val (.int (nI (p+1))),.val (.int ((1:Int32))),.val (.int (c)),.val (.int (w)),l7,l8,l9,l10,l11,l12,l13,l14,l15,l16,l17,l18,l19,l20,l21,l22,l23,l24,l25,l26,l27,l28] [.int v] (put 1 [((FieldType.array .int,vs.map Value.int):FieldType × List Value)] s A (tl t B)) Q:=by
    intro w v
    obtain ⟨k1,hk1,hm1⟩:=mdX (c >>> (1 &&& 31)) (m:=8) (n:=8) rfl (by decide) (by decide)
    obtain ⟨k2,hk2,hm2⟩:=mdX (c >>> (1 &&& 31)) (m:=32) (n:=32) rfl (by decide) (by decide)
    by_cases g:c &&& 1=0
    · simp [g,o7,m67_228g,m67_230,m67_237,m67_238,m67_244,m67_247,m67_249,m67_252,m67_253,ks]
      refine hm1 _ _ ?_
      simp [m67_228g,m67_230,m67_237,m67_238,m67_244,m67_247,m67_249,m67_252,m67_253,ks]
      refine srW J.1 (fun v s' A' d K => ?_)
      simp [m67_228g,m67_230,m67_237,m67_238,m67_244,m67_247,m67_249,m67_252,m67_253,m67_256,m67_257,m67_263,m67_266,m67_268,m67_271,m67_272,m67_1799,ks]
      refine lp _ _ _ _ _ _ _ _ _ _ _ _ _ _ _ _ _ _ _ _ _ _ _ _ _ _ _ _ _ _ (J.d d K) ?_ (by omega) (by omega)
      refine ⟨?_,?_,?_,?_,?_,?_,?_,?_,?_,?_,?_,?_,?_,?_,?_,?_,?_,?_,?_,?_,?_,?_,?_⟩ <;> first | assumption | exact okS_i _ | exact Or.inr ⟨_,rfl,rfl⟩
    · simp [g,o7,m67_228g,m67_230,m67_237,m67_238,m67_244,m67_247,m67_249,m67_252,m67_253,m67_256,m67_257,m67_263,m67_266,m67_268,m67_271,m67_272,ks]
      refine hm2 _ _ ?_
      simp [m67_228g,m67_230,m67_237,m67_238,m67_244,m67_247,m67_249,m67_252,m67_253,m67_256,m67_257,m67_263,m67_266,m67_268,m67_271,m67_272,ks]
      refine smW J.1 (fun v s' A' d K => ?_)
      simp [m67_228g,m67_230,m67_237,m67_238,m67_244,m67_247,m67_249,m67_252,m67_253,m67_256,m67_257,m67_263,m67_266,m67_268,m67_271,m67_272,m67_1799,ks]
      refine lp _ _ _ _ _ _ _ _ _ _ _ _ _ _ _ _ _ _ _ _ _ _ _ _ _ _ _ _ _ _ (J.d d K) ?_ (by omega) (by omega)
      refine ⟨?_,?_,?_,?_,?_,?_,?_,?_,?_,?_,?_,?_,?_,?_,?_,?_,?_,?_,?_,?_,?_,?_,?_⟩ <;> first | assumption | exact okS_i _ | exact Or.inr ⟨_,rfl,rfl⟩
  simp [nI_1,m67_61,m67_186,m67_192,m67_193,m67_197,m67_200g,ks]
  refine hw _ _ _ _ ?_
  by_cases g:(c >>> (6 &&& 31)) &&& 1=1
  · simp [g,o6,m67_200g,m67_202,m67_213,ks]
    exact T _ _
  · obtain ⟨k,hk,hm⟩:=mdX w (m:=41) (n:=41) rfl (by decide) (by decide)
    simp [g,o6,m67_200g,m67_202,m67_213,m67_218,m67_222,m67_225,m67_227,ks]
    refine hm _ _ ?_
    simp [m67_222,m67_225,m67_227,ks]
    exact T _ _
set_option maxRecDepth 1000000 in
set_option maxHeartbeats 20000000 in
theorem op0 {c:Int32} (lp:LP vs Q n) (hl:vs.length≤260) (J:JV s A t B) (o:OKL l4 l5 l6 l7 l8 l9 l10 l11 l12 l13 l14 l15 l16 l17 l18 l19 l20 l21 l22 l23 l24 l25 l26 l27 l28) (hp:p < 300) (hn:vs.length≤p+n):M67 61 [.val (.ref 0),.val (.ref 1),.val (.ref 34),.val (.int (nI p)),.val (.int (0:Int32)),.val (.int c),l6,l7,l8,l9,l10,l11,l12,l13,l14,l15,l16,l17,l18,l19,l20,l21,l22,l23,l24,l25,l26,l27,l28] [] (put 1 [((FieldType.array .int,vs.map Value.int):FieldType × List Value)] s A (tl t B)) Q:=by
  obtain ⟨o4,o5,o6,o7,o8,o9,o10,o11,o12,o13,o14,o15,o16,o17,o18,o19,o22,o23,o24,o27,o28,o20,o25⟩:=o
  obtain ⟨k,hk,hm⟩:=mdX c (m:=8) (n:=8) rfl (by decide) (by decide)
  obtain ⟨w,hw⟩:=clX vs (by omega) (p:=p) (by omega)
  have T:∀ (v:Int32),M67 133 [.val (.ref 0),.val (.ref 1),.val (.ref 34),.val (.int (nI (p+1))),.val (.int ((0:Int32))),.val (.int (c)),.val (.int (nI k)),.val (.int (w)),l8,l9,l10,l11,l12,l13,l14,l15,l16,l17,l18,l19,l20,l21,l22,l23,l24,l25,l26,l27,l28] [.int v] (put 1 [((FieldType.array .int,vs.map Value.int):FieldType × List Value)] s A (tl t B)) Q:=by
    intro v
    obtain ⟨k1,hk1,hm1⟩:=mdX (c >>> (3 &&& 31)) (m:=32) (n:=32) rfl (by decide) (by decide)
    obtain ⟨k2,hk2,hm2⟩:=mdX (w >>> (5 &&& 31)) (m:=8) (n:=8) rfl (by decide) (by decide)
    obtain ⟨L,hL⟩:=siX A (nI k1) (nI k) (nI k2) v
    simp [o8,m67_133g,m67_135,m67_141,m67_144g,m67_146,m67_152,m67_155g,m67_157,m67_158,m67_166,m67_169,m67_170,m67_171,m67_179,m67_182,ks]
    refine hm1 _ _ ?_
    simp [o9,m67_133g,m67_135,m67_141,m67_144g,m67_146,m67_152,m67_155g,m67_157,m67_158,m67_166,m67_169,m67_170,m67_171,m67_179,m67_182,ks]
    refine hm2 _ _ ?_
    simp [o10,m67_133g,m67_135,m67_141,m67_144g,m67_146,m67_152,m67_155g,m67_157,m67_158,m67_166,m67_169,m67_170,m67_171,m67_179,m67_182,ks]
    refine hL 0 _ _ _ s A J.1.ln KP_r (fun v A1 a1 a2 a3 => ?_)
    simp [m67_133g,m67_135,m67_141,m67_144g,m67_146,m67_152,m67_155g,m67_157,m67_158,m67_166,m67_169,m67_170,m67_171,m67_179,m67_182,ks]
    rw [vw]
    simp [m67_133g,m67_135,m67_141,m67_144g,m67_146,m67_152,m67_155g,m67_157,m67_158,m67_166,m67_169,m67_170,m67_171,m67_179,m67_182,ks]
    refine hL 33 _ _ _ t B J.2.1 J.2.2.1 (fun v B1 b1 b2 b3 => ?_)
    simp [m67_133g,m67_135,m67_141,m67_144g,m67_146,m67_152,m67_155g,m67_157,m67_158,m67_166,m67_169,m67_170,m67_171,m67_179,m67_182,m67_183,m67_1799,ks]
    rw [← vw]
    refine lp _ _ _ _ _ _ _ _ _ _ _ _ _ _ _ _ _ _ _ _ _ _ _ _ _ _ _ _ _ _ (⟨J.1.fr a1 (fun j hj => a2 j (by omega)) (fun _ _ => rfl),b1,fun j hj => (b3 j hj).trans (a3 j hj).symm,fun p hp => by rw [b2 7 (by omega)]; exact J.2.2.2 p hp⟩) ?_ (by omega) (by omega)
    refine ⟨?_,?_,?_,?_,?_,?_,?_,?_,?_,?_,?_,?_,?_,?_,?_,?_,?_,?_,?_,?_,?_,?_,?_⟩ <;> first | assumption | exact okS_i _ | exact Or.inr ⟨_,rfl,rfl⟩
  simp [nI_1,m67_61,m67_66,m67_70,m67_73g,m67_75,m67_76,m67_80,m67_83g,ks]
  refine hm _ _ ?_
  simp [nI_1,o6,m67_61,m67_66,m67_70,m67_73g,m67_75,m67_76,m67_80,m67_83g,ks]
  refine hw _ _ _ _ ?_
  obtain ⟨k1,hk1,hm1⟩:=mdX w (m:=11) (n:=11) rfl (by decide) (by decide)
  obtain ⟨k2,hk2,hm2⟩:=mdX w (m:=32) (n:=32) rfl (by decide) (by decide)
  obtain ⟨k3,hk3,hm3⟩:=mdX w (m:=8) (n:=8) rfl (by decide) (by decide)
  by_cases g1:k=1
  · have f1:(nI k=1)=True:=eT (c:=1) g1
    simp [o7,f1,m67_83g,m67_85,m67_91,m67_97,m67_101,m67_104,m67_105,m67_106,ks]
    refine hm1 _ _ ?_
    simp [m67_83g,m67_85,m67_91,m67_97,m67_101,m67_104,m67_105,m67_106,ks]
    exact T _
  have f1:(nI k=1)=False:=eF (c:=1) g1 (by omega) (by decide)
  by_cases g4:k=4
  · have f4:(nI k=4)=True:=eT (c:=4) g4
    simp [o7,f1,f4,m67_83g,m67_85,m67_91,m67_97,m67_101,m67_104,m67_105,m67_106,ks]
    refine hm1 _ _ ?_
    simp [m67_83g,m67_85,m67_91,m67_97,m67_101,m67_104,m67_105,m67_106,ks]
    exact T _
  have f4:(nI k=4)=False:=eF (c:=4) g4 (by omega) (by decide)
  by_cases g7:k=7
  · have f7:(nI k=7)=True:=eT (c:=7) g7
    simp [o7,f1,f4,f7,m67_83g,m67_85,m67_91,m67_97,m67_101,m67_104,m67_105,m67_106,m67_109,m67_116,m67_120,m67_123,ks]
    refine hm2 _ _ ?_
    simp [m67_83g,m67_85,m67_91,m67_97,m67_101,m67_104,m67_105,m67_106,m67_109,m67_116,m67_120,m67_123,ks]
    exact T _
  · have f7:(nI k=7)=False:=eF (c:=7) g7 (by omega) (by decide)
    simp [o7,f1,f4,f7,m67_83g,m67_85,m67_91,m67_97,m67_101,m67_104,m67_105,m67_106,m67_109,m67_116,m67_120,m67_123,m67_126,m67_130,ks]
    refine hm3 _ _ ?_
    simp
    exact T _
set_option maxRecDepth 1000000 in
set_option maxHeartbeats 20000000 in
theorem tkB {c:Int32}{q ne i no j e:Nat} (hl:vs.length≤260) (J:JV s A t B) (hp:p < 400) (o11:okS l11) (o12:okS l12) (o13:okS l13)
    (hq:∀ s' A' l11 l12 l13,JV s' A' t B→okS l11→okS l12→okS l13→M67 644 [.val (.ref 0),.val (.ref 1),.val (.ref 34),.val (.int (nI (p+1))),.val (.int ((2:Int32))),.val (.int (c)),.val (.int (nI q)),.val (.int (nI ne)),.val (.int (nI i)),.val (.int (nI no)),.val (.int (nI j)),l11,l12,l13,l14,l15,l16,l17,l18,l19,l20,l21,l22,l23,l24,l25,l26,l27,l28] [] (put 1 [((FieldType.array .int,vs.map Value.int):FieldType × List Value)] s' A' (tl t B)) Q):M67 386 [.val (.ref 0),.val (.ref 1),.val (.ref 34),.val (.int (nI p)),.val (.int ((2:Int32))),.val (.int (c)),.val (.int (nI q)),.val (.int (nI ne)),.val (.int (nI i)),.val (.int (nI no)),.val (.int (nI j)),l11,l12,l13,l14,l15,l16,l17,l18,l19,l20,l21,l22,l23,l24,l25,l26,l27,l28] [] (put 1 [((FieldType.array .int,vs.map Value.int):FieldType × List Value)] s A (tl t B)) Q:=by
  obtain ⟨f,hf⟩:=clX vs (by omega) (p:=p) (by omega)
  obtain ⟨r,hr,hm⟩:=mdX (f >>> (3 &&& 31)) (m:=8) (n:=8) rfl (by decide) (by decide)
  obtain ⟨k,hk,hm2⟩:=mdX f (m:=8) (n:=8) rfl (by decide) (by decide)
  simp [nI_1,m67_386,m67_387,m67_391,m67_394g,m67_396,m67_402,m67_405g,m67_407,m67_411,m67_414g,ks]
  refine hf _ _ _ _ ?_
  simp [o11,m67_386,m67_387,m67_391,m67_394g,m67_396,m67_402,m67_405g,m67_407,m67_411,m67_414g,ks]
  refine hm _ _ ?_
  simp [o12,m67_386,m67_387,m67_391,m67_394g,m67_396,m67_402,m67_405g,m67_407,m67_411,m67_414g,ks]
  refine hm2 _ _ ?_
  rcases (by omega:k=0 ∨ k=1 ∨ k=2 ∨ k=3 ∨ k=4 ∨ k=5 ∨ k=6 ∨ k=7) with rfl | rfl | rfl | rfl | rfl | rfl | rfl | rfl
  · obtain ⟨k1,hk1,hm1⟩:=mdX (f >>> (3 &&& 31)) (m:=7) (n:=7) rfl (by decide) (by decide)
    simp [o13,z_n0,m67_414g,m67_416,m67_421,m67_422,m67_429,m67_432,m67_433,m67_434,m67_437,m67_438,ks]
    refine hm1 _ _ ?_
    simp [m67_414g,m67_416,m67_421,m67_422,m67_429,m67_432,m67_433,m67_434,m67_437,m67_438,ks]
    refine tkW J.1 (fun v s1 A1 d K => ?_)
    simp [m67_414g,m67_416,m67_421,m67_422,m67_429,m67_432,m67_433,m67_434,m67_437,m67_438,ks]
    exact hq _ _ _ _ _ (J.d d K) (okS_i _) (okS_i _) (okS_i _)
  · simp [o13,z_n1,m67_414g,m67_416,m67_441,m67_447,m67_448,m67_451,m67_454,m67_455,ks]
    refine tkW J.1 (fun v s1 A1 d K => ?_)
    simp [m67_441,m67_447,m67_448,m67_451,m67_454,m67_455,ks]
    exact hq _ _ _ _ _ (J.d d K) (okS_i _) (okS_i _) (okS_i _)
  · obtain ⟨k1,hk1,hm1⟩:=mdX (f >>> (3 &&& 31)) (m:=40) (n:=40) rfl (by decide) (by decide)
    simp [o13,z_n2,m67_414g,m67_416,m67_441,m67_458,m67_464,m67_465,m67_468,m67_471,m67_472,m67_473,m67_480,m67_483,m67_484,m67_485,m67_488,m67_489,ks]
    refine tkW J.1 (fun v s1 A1 d K => ?_)
    simp [m67_458,m67_464,m67_465,m67_468,m67_471,m67_472,m67_473,m67_480,m67_483,m67_484,m67_485,m67_488,m67_489,ks]
    refine hm1 _ _ ?_
    simp [m67_458,m67_464,m67_465,m67_468,m67_471,m67_472,m67_473,m67_480,m67_483,m67_484,m67_485,m67_488,m67_489,ks]
    refine tkW d (fun v s2 A2 d2 K2 => ?_)
    simp [m67_458,m67_464,m67_465,m67_468,m67_471,m67_472,m67_473,m67_480,m67_483,m67_484,m67_485,m67_488,m67_489,ks]
    exact hq _ _ _ _ _ ((J.d d K).d d2 K2) (okS_i _) (okS_i _) (okS_i _)
  · simp [o13,z_n3,m67_414g,m67_416,m67_441,m67_458,m67_492,m67_498,m67_499,m67_502,m67_505,m67_506,m67_507,m67_510,m67_513,m67_514,ks]
    refine tkW J.1 (fun v s1 A1 d K => ?_)
    simp [m67_492,m67_498,m67_499,m67_502,m67_505,m67_506,m67_507,m67_510,m67_513,m67_514,ks]
    refine tkW d (fun v s2 A2 d2 K2 => ?_)
    simp [m67_492,m67_498,m67_499,m67_502,m67_505,m67_506,m67_507,m67_510,m67_513,m67_514,ks]
    exact hq _ _ _ _ _ ((J.d d K).d d2 K2) (okS_i _) (okS_i _) (okS_i _)
  · simp [o13,z_n4,m67_414g,m67_416,m67_441,m67_458,m67_492,m67_517,m67_523,m67_524,m67_526,m67_529,m67_530,m67_531,m67_534,m67_537,m67_538,ks]
    refine tkW J.1 (fun v s1 A1 d K => ?_)
    simp [m67_517,m67_523,m67_524,m67_526,m67_529,m67_530,m67_531,m67_534,m67_537,m67_538,ks]
    refine tkW d (fun v s2 A2 d2 K2 => ?_)
    simp [m67_517,m67_523,m67_524,m67_526,m67_529,m67_530,m67_531,m67_534,m67_537,m67_538,ks]
    exact hq _ _ _ _ _ ((J.d d K).d d2 K2) (okS_i _) (okS_i _) (okS_i _)
  · simp [o13,z_n5,m67_414g,m67_416,m67_441,m67_458,m67_492,m67_517,m67_541,m67_547,m67_548,m67_551,m67_554,m67_555,m67_556,m67_559,m67_562,m67_563,ks]
    refine tkW J.1 (fun v s1 A1 d K => ?_)
    simp [m67_541,m67_547,m67_548,m67_551,m67_554,m67_555,m67_556,m67_559,m67_562,m67_563,ks]
    refine tkW d (fun v s2 A2 d2 K2 => ?_)
    simp [m67_541,m67_547,m67_548,m67_551,m67_554,m67_555,m67_556,m67_559,m67_562,m67_563,ks]
    exact hq _ _ _ _ _ ((J.d d K).d d2 K2) (okS_i _) (okS_i _) (okS_i _)
  · obtain ⟨k1,hk1,hm1⟩:=mdX (f >>> (6 &&& 31)) (m:=13) (n:=13) rfl (by decide) (by decide)
    obtain ⟨k2,hk2,hm3⟩:=mdX (f >>> (10 &&& 31)) (m:=5) (n:=5) rfl (by decide) (by decide)
    simp [o13,z_n6,m67_414g,m67_416,m67_441,m67_458,m67_492,m67_517,m67_541,k67_13,m67_607,m67_608,m67_615,m67_618,m67_619,m67_620,m67_623,m67_624,m67_625,m67_627,m67_630,m67_631,ks]
    refine tkW J.1 (fun v s1 A1 d K => ?_)
    simp [k67_13,m67_607,m67_608,m67_615,m67_618,m67_619,m67_620,m67_623,m67_624,m67_625,m67_627,m67_630,m67_631,ks]
    refine tkW d (fun v s2 A2 d2 K2 => ?_)
    simp [k67_13,m67_607,m67_608,m67_615,m67_618,m67_619,m67_620,m67_623,m67_624,m67_625,m67_627,m67_630,m67_631,ks]
    refine hm1 _ _ ?_
    simp [k67_13,m67_607,m67_608,m67_615,m67_618,m67_619,m67_620,m67_623,m67_624,m67_625,m67_627,m67_630,m67_631,ks]
    refine tkW d2 (fun v s3 A3 d3 K3 => ?_)
    simp [k67_13,m67_607,m67_608,m67_615,m67_618,m67_619,m67_620,m67_623,m67_624,m67_625,m67_627,m67_630,m67_631,ks]
    refine hm3 _ _ ?_
    simp [k67_13,m67_607,m67_608,m67_615,m67_618,m67_619,m67_620,m67_623,m67_624,m67_625,m67_627,m67_630,m67_631,ks]
    refine tkW d3 (fun v s4 A4 d4 K4 => ?_)
    simp [k67_13,m67_607,m67_608,m67_615,m67_618,m67_619,m67_620,m67_623,m67_624,m67_625,m67_627,m67_630,m67_631,ks]
    refine tkW d4 (fun v s5 A5 d5 K5 => ?_)
    simp [k67_13,m67_607,m67_608,m67_615,m67_618,m67_619,m67_620,m67_623,m67_624,m67_625,m67_627,m67_630,m67_631,ks]
    exact hq _ _ _ _ _ (((((J.d d K).d d2 K2).d d3 K3).d d4 K4).d d5 K5) (okS_i _) (okS_i _) (okS_i _)
  · simp [o13,z_n7,m67_414g,m67_416,m67_441,m67_458,m67_492,m67_517,m67_541,m67_566,m67_634,m67_635,m67_640,m67_643,ks]
    refine tkW J.1 (fun v s1 A1 d K => ?_)
    simp [m67_634,m67_635,m67_640,m67_643,ks]
    exact hq _ _ _ _ _ (J.d d K) (okS_i _) (okS_i _) (okS_i _)
theorem tkI {c:Int32}{q ne i no:Nat} (hl:vs.length≤260) (hno:no≤3)
    (hq:∀ p' s' A' l10 l11 l12 l13,p≤p'→p'≤p+2 * no→JV s' A' t B→okS l10→okS l11→okS l12→okS l13→M67 650 [.val (.ref 0),.val (.ref 1),.val (.ref 34),.val (.int (nI p')),.val (.int ((2:Int32))),.val (.int (c)),.val (.int (nI q)),.val (.int (nI ne)),.val (.int (nI i)),.val (.int (nI no)),l10,l11,l12,l13,l14,l15,l16,l17,l18,l19,l20,l21,l22,l23,l24,l25,l26,l27,l28] [] (put 1 [((FieldType.array .int,vs.map Value.int):FieldType × List Value)] s' A' (tl t B)) Q) (hp:p < 390) :
    ∀ (r j p1:Nat) (l11 l12 l13:Slot) (s:Nat→Int32) (A:Nat→List Int32),j+r=no→p≤p1→p1≤p+2 * j→JV s A t B→okS l11→okS l12→okS l13→M67 352 [.val (.ref 0),.val (.ref 1),.val (.ref 34),.val (.int (nI p1)),.val (.int ((2:Int32))),.val (.int (c)),.val (.int (nI q)),.val (.int (nI ne)),.val (.int (nI i)),.val (.int (nI no)),.val (.int (nI j)),l11,l12,l13,l14,l15,l16,l17,l18,l19,l20,l21,l22,l23,l24,l25,l26,l27,l28] [] (put 1 [((FieldType.array .int,vs.map Value.int):FieldType × List Value)] s A (tl t B)) Q:=by
  intro r
  induction r with
  | zero =>
    intro j p1 l11 l12 l13 s A e h1 h2 J o11 o12 o13
    have c1:(nI j < nI no)=False:=lF (by omega) (by omega)
    rw [m67_352]
    simp [c1,ks]
    exact hq p1 s A _ _ _ _ h1 (by omega) J (okS_i _) o11 o12 o13
  | succ r ih =>
    intro j p1 l11 l12 l13 s A e h1 h2 J o11 o12 o13
    have c1:(nI j < nI no)=True:=lT (by omega) (by omega)
    have T:∀ p2 s2 A2,p≤p2→p2≤p1+1→JV s2 A2 t B→M67 386 [.val (.ref 0),.val (.ref 1),.val (.ref 34),.val (.int (nI p2)),.val (.int ((2:Int32))),.val (.int (c)),.val (.int (nI q)),.val (.int (nI ne)),.val (.int (nI i)),.val (.int (nI no)),.val (.int (nI j)),l11,l12,l13,l14,l15,l16,l17,l18,l19,l20,l21,l22,l23,l24,l25,l26,l27,l28] [] (put 1 [((FieldType.array .int,vs.map Value.int):FieldType × List Value)] s2 A2 (tl t B)) Q:=by
      intro p2 s2 A2 g1 g2 J2
      refine tkB (e:=0) hl J2 (by omega) o11 o12 o13 (fun s3 A3 l11 l12 l13 J3 a b d => ?_)
      simp [nI_1,m67_644,ks]
      exact ih (j+1) (p2+1) _ _ _ s3 A3 (by omega) (by omega) (by omega) J3 a b d
    rw [m67_352]
    by_cases g:0 < j
    · have c2:(0 < nI j)=True:=lT (a:=0) g (by omega)
      obtain ⟨w,hw⟩:=clX vs (by omega) (p:=p1) (by omega)
      obtain ⟨k,hk,hm⟩:=mdX w (m:=13) (n:=13) rfl (by decide) (by decide)
      simp [c1,c2,nI_1,m67_359,m67_364,m67_365,m67_367,m67_368,m67_372,m67_375,m67_377,m67_380,m67_381,m67_382,m67_385,ks]
      refine hw _ _ _ _ ?_
      simp [m67_359,m67_364,m67_365,m67_367,m67_368,m67_372,m67_375,m67_377,m67_380,m67_381,m67_382,m67_385,ks]
      refine hm _ _ ?_
      simp [m67_359,m67_364,m67_365,m67_367,m67_368,m67_372,m67_375,m67_377,m67_380,m67_381,m67_382,m67_385,ks]
      refine tkW J.1 (fun v s1 A1 d K => ?_)
      simp [m67_359,m67_364,m67_365,m67_367,m67_368,m67_372,m67_375,m67_377,m67_380,m67_381,m67_382,m67_385,ks]
      exact T (p1+1) s1 A1 (by omega) (by omega) (J.d d K)
    · have c2:(0 < nI j)=False:=lF (a:=0) (by omega) (by omega)
      simp [c1,c2,m67_359,ks]
      exact T p1 s A h1 (by omega) J
theorem tkO {c:Int32}{q ne:Nat} (hl:vs.length≤260) (hne:ne≤4) (hp:p < 350)
    (hq:∀ p' s' A' l8 l9 l10 l11 l12 l13,p≤p'→p'≤p+7 * ne→JV s' A' t B→okS l8→okS l9→okS l10→okS l11→okS l12→okS l13→M67 656 [.val (.ref 0),.val (.ref 1),.val (.ref 34),.val (.int (nI p')),.val (.int ((2:Int32))),.val (.int (c)),.val (.int (nI q)),.val (.int (nI ne)),l8,l9,l10,l11,l12,l13,l14,l15,l16,l17,l18,l19,l20,l21,l22,l23,l24,l25,l26,l27,l28] [] (put 1 [((FieldType.array .int,vs.map Value.int):FieldType × List Value)] s' A' (tl t B)) Q) :
    ∀ (r i p1:Nat) (l9 l10 l11 l12 l13:Slot) (s:Nat→Int32) (A:Nat→List Int32),i+r=ne→p≤p1→p1≤p+7 * i→JV s A t B→okS l9→okS l10→okS l11→okS l12→okS l13→M67 304 [.val (.ref 0),.val (.ref 1),.val (.ref 34),.val (.int (nI p1)),.val (.int ((2:Int32))),.val (.int (c)),.val (.int (nI q)),.val (.int (nI ne)),.val (.int (nI i)),l9,l10,l11,l12,l13,l14,l15,l16,l17,l18,l19,l20,l21,l22,l23,l24,l25,l26,l27,l28] [] (put 1 [((FieldType.array .int,vs.map Value.int):FieldType × List Value)] s A (tl t B)) Q:=by
  intro r
  induction r with
  | zero =>
    intro i p1 l9 l10 l11 l12 l13 s A e h1 h2 J o9 o10 o11 o12 o13
    have c1:(nI i < nI ne)=False:=lF (by omega) (by omega)
    rw [m67_304]
    simp [c1,ks]
    exact hq p1 s A _ _ _ _ _ _ h1 (by omega) J (okS_i _) o9 o10 o11 o12 o13
  | succ r ih =>
    intro i p1 l9 l10 l11 l12 l13 s A e h1 h2 J o9 o10 o11 o12 o13
    have c1:(nI i < nI ne)=True:=lT (by omega) (by omega)
    have T:∀ s2 A2,JV s2 A2 t B→M67 323 [.val (.ref 0),.val (.ref 1),.val (.ref 34),.val (.int (nI p1)),.val (.int ((2:Int32))),.val (.int (c)),.val (.int (nI q)),.val (.int (nI ne)),.val (.int (nI i)),l9,l10,l11,l12,l13,l14,l15,l16,l17,l18,l19,l20,l21,l22,l23,l24,l25,l26,l27,l28] [] (put 1 [((FieldType.array .int,vs.map Value.int):FieldType × List Value)] s2 A2 (tl t B)) Q:=by
      intro s2 A2 J2
      obtain ⟨w,hw⟩:=clX vs (by omega) (p:=p1) (by omega)
      have F:∀ no,no≤3→M67 352 [.val (.ref 0),.val (.ref 1),.val (.ref 34),.val (.int (nI (p1+1))),.val (.int ((2:Int32))),.val (.int (c)),.val (.int (nI q)),.val (.int (nI ne)),.val (.int (nI i)),.val (.int (nI no)),.val (.int (nI 0)),l11,l12,l13,l14,l15,l16,l17,l18,l19,l20,l21,l22,l23,l24,l25,l26,l27,l28] [] (put 1 [((FieldType.array .int,vs.map Value.int):FieldType × List Value)] s2 A2 (tl t B)) Q:=by
        intro no hno
        refine tkI (p:=p1+1) hl hno (fun p' s' A' l10 l11 l12 l13 g1 g2 J3 a b d f => ?_) (by omega) no 0 (p1+1) _ _ _ s2 A2 (by omega) (by omega) (by omega) J2 o11 o12 o13
        simp [nI_1,m67_650,ks]
        exact ih (i+1) p' _ _ _ _ _ s' A' (by omega) (by omega) (by omega) J3 (okS_i _) a b d f
      by_cases g:2 < ne
      · have c2:(2 < nI ne)=True:=lT (a:=2) g (by omega)
        obtain ⟨k,hk,hm⟩:=mdX w (m:=2) (n:=2) rfl (by decide) (by decide)
        simp [nI_1,m67_323,m67_324,m67_325,m67_329,m67_332,m67_338,m67_342,m67_343,m67_346,m67_347g,m67_349,m67_350g,ks]
        refine hw _ _ _ _ ?_
        simp [c2,m67_323,m67_324,m67_325,m67_329,m67_332,m67_338,m67_342,m67_343,m67_346,m67_347g,m67_349,m67_350g,ks]
        refine hm _ _ ?_
        simp [o9,o10,nI_1',m67_323,m67_324,m67_325,m67_329,m67_332,m67_338,m67_342,m67_343,m67_346,m67_347g,m67_349,m67_350g,ks]
        exact F (k+1) (by omega)
      · have c2:(2 < nI ne)=False:=lF (a:=2) (by omega) (by omega)
        obtain ⟨k,hk,hm⟩:=mdX w (m:=3) (n:=3) rfl (by decide) (by decide)
        simp [nI_1,m67_323,m67_324,m67_325,m67_329,m67_332,m67_338,m67_342,m67_343,m67_346,m67_347g,m67_349,m67_350g,ks]
        refine hw _ _ _ _ ?_
        simp [c2,m67_323,m67_324,m67_325,m67_329,m67_332,m67_338,m67_342,m67_343,m67_346,m67_347g,m67_349,m67_350g,ks]
        refine hm _ _ ?_
        simp [o9,o10,nI_1',m67_323,m67_324,m67_325,m67_329,m67_332,m67_338,m67_342,m67_343,m67_346,m67_347g,m67_349,m67_350g,ks]
        exact F (k+1) (by omega)
    rw [m67_304]
    by_cases g:0 < i
    · have c2:(0 < nI i)=True:=lT (a:=0) g (by omega)
      simp [c1,c2,m67_311,m67_316,m67_317,m67_319,m67_322,ks]
      refine tkW J.1 (fun v s1 A1 d K => ?_)
      simp [m67_311,m67_316,m67_317,m67_319,m67_322,ks]
      exact T s1 A1 (J.d d K)
    · have c2:(0 < nI i)=False:=lF (a:=0) (by omega) (by omega)
      simp [c1,c2,m67_311,ks]
      exact T s A J
theorem op2 {c:Int32} (lp:LP vs Q n) (hl:vs.length≤260) (J:JV s A t B) (o:OKL l4 l5 l6 l7 l8 l9 l10 l11 l12 l13 l14 l15 l16 l17 l18 l19 l20 l21 l22 l23 l24 l25 l26 l27 l28) (hp:p < 300) (hn:vs.length≤p+n):M67 61 [.val (.ref 0),.val (.ref 1),.val (.ref 34),.val (.int (nI p)),.val (.int (2:Int32)),.val (.int c),l6,l7,l8,l9,l10,l11,l12,l13,l14,l15,l16,l17,l18,l19,l20,l21,l22,l23,l24,l25,l26,l27,l28] [] (put 1 [((FieldType.array .int,vs.map Value.int):FieldType × List Value)] s A (tl t B)) Q:=by
  obtain ⟨o4,o5,o6,o7,o8,o9,o10,o11,o12,o13,o14,o15,o16,o17,o18,o19,o22,o23,o24,o27,o28,o20,o25⟩:=o
  obtain ⟨q,hq4,hm⟩:=mdX c (m:=4) (n:=4) rfl (by decide) (by decide)
  obtain ⟨k,hk,hm2⟩:=mdX (c >>> (2 &&& 31)) (m:=4) (n:=4) rfl (by decide) (by decide)
  simp [m67_61,m67_186,m67_275,m67_281,k67_6,ks]
  refine hm _ _ ?_
  simp [o6,m67_275,m67_281,k67_6,ks]
  refine hm2 _ _ ?_
  simp [o7,o8,nI_1',m67_275,m67_281,k67_6,ks]
  refine tkO (p:=p) (ne:=k+1) hl (by omega) (by omega) (fun p' s' A' l8 l9 l10 l11 l12 l13 g1 g2 J' a1 a2 a3 a4 a5 a6 => ?_) (k+1) 0 p _ _ _ _ _ s A (by omega) (by omega) (by omega) J o9 o10 o11 o12 o13
  simp [m67_656,m67_657,m67_659,m67_662,m67_663,ks]
  refine coW hq4 J'.1 (fun v s2 A2 d K => ?_)
  simp [m67_656,m67_657,m67_659,m67_662,m67_663,m67_1799,ks]
  refine lp _ _ _ _ _ _ _ _ _ _ _ _ _ _ _ _ _ _ _ _ _ _ _ _ _ _ _ _ _ _ (J'.d d K) ?_ (by omega) (by omega)
  refine ⟨?_,?_,?_,?_,?_,?_,?_,?_,?_,?_,?_,?_,?_,?_,?_,?_,?_,?_,?_,?_,?_,?_,?_⟩ <;> first | assumption | exact okS_i _ | exact Or.inr ⟨_,rfl,rfl⟩
theorem u1135 {l0 l1 l2:Slot}{J1:Int64}{st:List Value}{H:AHeap} (h:PRo l20 l21):M67 1135 [l0,l1,l2,l3,l4,l5,l6,l7,l8,l9,l10,l11,l12,l13,l14,l15,l16,l17,l18,l19,l20,l21,l22,l23,l24,l25,l26,l27,l28] (.long J1::st) H Q=M67 1137 [l0,l1,l2,l3,l4,l5,l6,l7,l8,l9,l10,l11,l12,l13,l14,l15,l16,l17,l18,l19,.val (.long J1),.second,l22,l23,l24,l25,l26,l27,l28] st H Q:=by rcases h with ⟨rfl,rfl⟩ | ⟨w,rfl,rfl⟩; exact m67_1135; exact w_x at_1135 rfl
theorem u1322 {l0 l1 l2:Slot}{v:Int32}{st:List Value}{H:AHeap} (h:PRo l25 l26):M67 1322 [l0,l1,l2,l3,l4,l5,l6,l7,l8,l9,l10,l11,l12,l13,l14,l15,l16,l17,l18,l19,l20,l21,l22,l23,l24,l25,l26,l27,l28] (.int v::st) H Q=M67 1324 [l0,l1,l2,l3,l4,l5,l6,l7,l8,l9,l10,l11,l12,l13,l14,l15,l16,l17,l18,l19,l20,l21,l22,l23,l24,.val (.int v),.unset,l27,l28] st H Q:=by rcases h with ⟨rfl,rfl⟩ | ⟨w,rfl,rfl⟩; exact w_st (i:=25) (p:=isI) at_1322 rfl rfl rfl rfl rfl rfl; exact w_x at_1322 rfl
theorem cmp_e (J:Int64):XT.cmpL J J=0:=by simp [XT.cmpL]
def HV (k:Int32) (V E:Nat→Int32) (j:Nat):Int32:=if nI j < k then (if E j=0 then V j else 0) else 0
def HE (k:Int32) (E:Nat→Int32) (j:Nat):Int32:=if nI j < k then E j else 0
theorem VC_HV {k:Int32}{V E:Nat→Int32}{c:Nat} (h:c < 3):VC k V E 4 c=HV k V E (c+1):=by
  unfold VC HV
  by_cases g:nI (c+1) < k
  · by_cases z:E (c+1)=0
    · rw [if_pos ⟨by omega,g,z⟩,if_pos g,if_pos z]
    · rw [if_neg (fun q => z q.2.2),if_pos g,if_neg z]
  · rw [if_neg (fun q => g q.2.1),if_neg g]
def fpg (k:Int64→Int32→Int64) (h:Nat→Int32):Nat→Int64→Int64
  | 0,w => w
  | r+1,w => fpg k h r (k w (h (8 - (r+1))))
theorem fpg_z (k:Int64→Int32→Int64) (h:Nat→Int32) (w:Int64):fpg k h 0 w=w:=by rw [fpg]
theorem fpg_s (k:Int64→Int32→Int64) (h:Nat→Int32) {r g:Nat} (w:Int64) (hg:8 - (r+1)=g):fpg k h (r+1) w=fpg k h r (k w (h g)):=by
  subst hg
  rw [fpg]
def fpo (k:Int64→Int32→Int64) (fv:Nat→Nat→Int32) (H:Nat):Nat→Int64→Int64
  | 0,w => w
  | r+1,w => fpo k fv H r (fpg k (fv (H - (r+1))) 8 w)
theorem fpo_z (k:Int64→Int32→Int64) (fv:Nat→Nat→Int32) (H:Nat) (w:Int64):fpo k fv H 0 w=w:=by rw [fpo]
theorem fpo_s (k:Int64→Int32→Int64) (fv:Nat→Nat→Int32) {H r f:Nat} (w:Int64) (hf:H - (r+1)=f):fpo k fv H (r+1) w=fpo k fv H r (fpg k (fv f) 8 w):=by
  subst hf
  rw [fpo]
def FVok (fv:Nat→Nat→Int32) (s:Nat→Int32) (A:Nat→List Int32):Prop:=∀ f g,f < 2147483648→g < 8→∀ (b:Nat) (pre post:AHeap) (Q:Option Value→AHeap→Prop),Q (some (.int (fv f g))) (put (b+1) pre s A post)→M54 0 [.val (.ref (b+1)),.val (.int (nI f)),.val (.int (nI g)),.unset] [] (put (b+1) pre s A post) Q
set_option maxRecDepth 1000000 in
set_option maxHeartbeats 20000000 in
theorem frX (sB:Nat→Int32) (AB:Nat→List Int32) (f g:Nat) (hf:f < 2147483648) (hg:g < 8):∃ v:Int32,∀ (b:Nat) (pre post:AHeap) (Q:Option Value→AHeap→Prop) (s:Nat→Int32) (A:Nat→List Int32),LN A→s 19=sB 19→s 20=sB 20→(∀ j,25≤j∧j≤30→A j=AB j)→Q (some (.int v)) (put (b+1) pre s A post)→M54 0 [.val (.ref (b+1)),.val (.int (nI f)),.val (.int (nI g)),.unset] [] (put (b+1) pre s A post) Q:=by
  have c1:(nI f < 0)=False:=nnF hf
  by_cases c2:nI f < sB 20
  · obtain ⟨a,ha,hy⟩:=n7 (sB 19+nI f)
    rcases (by omega:g=0 ∨ g=1 ∨ g=2 ∨ g=3 ∨ g=7 ∨ g=4 ∨ g=5 ∨ g=6) with rfl | rfl | rfl | rfl | rfl | rfl | rfl | rfl
    · exact ⟨getA (AB 25) (nI a),fun b pre post Q s A h e19 e20 eA hq => by
        have q1:=in25 h ha
        have e:=eA 25 (by omega)
        rw [e] at q1
        simp [c1,c2,e19,e20,hy,e,q1,z_n0,k54_0,k54_1,ks]; exact hq⟩
    · exact ⟨getA (AB 26) (nI a),fun b pre post Q s A h e19 e20 eA hq => by
        have q1:=in26 h ha
        have e:=eA 26 (by omega)
        rw [e] at q1
        simp [c1,c2,e19,e20,hy,e,q1,z_n1,k54_0,k54_1,ks]; exact hq⟩
    · exact ⟨getA (AB 27) (nI a),fun b pre post Q s A h e19 e20 eA hq => by
        have q1:=in27 h ha
        have e:=eA 27 (by omega)
        rw [e] at q1
        simp [c1,c2,e19,e20,hy,e,q1,z_n2,k54_0,k54_1,ks]; exact hq⟩
    · exact ⟨getA (AB 28) (nI a),fun b pre post Q s A h e19 e20 eA hq => by
        have q1:=in28 h ha
        have e:=eA 28 (by omega)
        rw [e] at q1
        simp [c1,c2,e19,e20,hy,e,q1,z_n3,k54_0,k54_1,ks]; exact hq⟩
    · exact ⟨getA (AB 29) (nI a),fun b pre post Q s A h e19 e20 eA hq => by
        have q1:=in29 h ha
        have e:=eA 29 (by omega)
        rw [e] at q1
        simp [c1,c2,e19,e20,hy,e,q1,z_n7,k54_0,k54_1,ks]; exact hq⟩
    · by_cases c3:0 < getA (AB 27) (nI a)
      · exact ⟨getA (AB 30) (nI (a * 3)),fun b pre post Q s A h e19 e20 eA hq => by
          have q1:=in27 h ha
          have e:=eA 27 (by omega)
          have q2:=in30 h (i:=a * 3) (by omega)
          have e':=eA 30 (by omega)
          rw [e] at q1
          rw [e'] at q2
          simp [c1,c2,c3,e19,e20,hy,e,e',q1,q2,z_n4,nI_x3,nI_1,nI_2,k54_0,k54_1,ks,k55_0,ks]; exact hq⟩
      · exact ⟨0,fun b pre post Q s A h e19 e20 eA hq => by
          have q1:=in27 h ha
          have e:=eA 27 (by omega)
          rw [e] at q1
          simp [c1,c2,c3,e19,e20,hy,e,q1,z_n4,k54_0,k54_1,ks,k55_0,ks]; exact hq⟩
    · by_cases c3:1 < getA (AB 27) (nI a)
      · exact ⟨getA (AB 30) (nI (a * 3+1)),fun b pre post Q s A h e19 e20 eA hq => by
          have q1:=in27 h ha
          have e:=eA 27 (by omega)
          have q2:=in30 h (i:=a * 3+1) (by omega)
          have e':=eA 30 (by omega)
          rw [e] at q1
          rw [e'] at q2
          simp [c1,c2,c3,e19,e20,hy,e,e',q1,q2,z_n5,nI_x3,nI_1,nI_2,k54_0,k54_1,ks,k55_0,ks]; exact hq⟩
      · exact ⟨0,fun b pre post Q s A h e19 e20 eA hq => by
          have q1:=in27 h ha
          have e:=eA 27 (by omega)
          rw [e] at q1
          simp [c1,c2,c3,e19,e20,hy,e,q1,z_n5,k54_0,k54_1,ks,k55_0,ks]; exact hq⟩
    · by_cases c3:2 < getA (AB 27) (nI a)
      · exact ⟨getA (AB 30) (nI (a * 3+2)),fun b pre post Q s A h e19 e20 eA hq => by
          have q1:=in27 h ha
          have e:=eA 27 (by omega)
          have q2:=in30 h (i:=a * 3+2) (by omega)
          have e':=eA 30 (by omega)
          rw [e] at q1
          rw [e'] at q2
          simp [c1,c2,c3,e19,e20,hy,e,e',q1,q2,z_n6,nI_x3,nI_1,nI_2,k54_0,k54_1,ks,k55_0,ks]; exact hq⟩
      · exact ⟨0,fun b pre post Q s A h e19 e20 eA hq => by
          have q1:=in27 h ha
          have e:=eA 27 (by omega)
          rw [e] at q1
          simp [c1,c2,c3,e19,e20,hy,e,q1,z_n6,k54_0,k54_1,ks,k55_0,ks]; exact hq⟩
  · exact ⟨0,fun b pre post Q s A h e19 e20 eA hq => by
      rw [← e20] at c2
      simp [c1,c2,k54_0,k54_1,ks]; exact hq⟩
theorem fvX (sB:Nat→Int32) (AB:Nat→List Int32):∃ fv,∀ (s:Nat→Int32) (A:Nat→List Int32),LN A→s 19=sB 19→s 20=sB 20→(∀ j,25≤j∧j≤30→A j=AB j)→FVok fv s A:=by
  have h:∀ x:Nat × Nat,∃ v:Int32,x.1 < 2147483648→x.2 < 8→∀ (b:Nat) (pre post:AHeap) (Q:Option Value→AHeap→Prop) (s:Nat→Int32) (A:Nat→List Int32),LN A→s 19=sB 19→s 20=sB 20→(∀ j,25≤j∧j≤30→A j=AB j)→Q (some (.int v)) (put (b+1) pre s A post)→M54 0 [.val (.ref (b+1)),.val (.int (nI x.1)),.val (.int (nI x.2)),.unset] [] (put (b+1) pre s A post) Q:=by
    intro x
    by_cases h1:x.1 < 2147483648
    · by_cases h2:x.2 < 8
      · obtain ⟨v,hv⟩:=frX sB AB x.1 x.2 h1 h2
        exact ⟨v,fun _ _ => hv⟩
      · exact ⟨0,fun _ a => absurd a h2⟩
    · exact ⟨0,fun a => absurd a h1⟩
  obtain ⟨fv,hv⟩:=Classical.axiomOfChoice h
  exact ⟨fun f g => fv (f,g),fun s A l a c d f g h1 h2 b pre post Q hq => hv (f,g) h1 h2 b pre post Q s A l a c d hq⟩
set_option maxRecDepth 1000000 in
set_option maxHeartbeats 20000000 in
theorem frG {u v w m z:Int32}{W:Nat→Int32} (h:LN A) (fw:FW u v w m z W s A):∀ (b:Nat) (pre post:AHeap) (Q:Option Value→AHeap→Prop),(Q (some (.int u)) (put (b+1) pre s A post)→M54 0 [.val (.ref (b+1)),.val (.int (s 20 - 1)),.val (.int 0),.unset] [] (put (b+1) pre s A post) Q)∧(Q (some (.int v)) (put (b+1) pre s A post)→M54 0 [.val (.ref (b+1)),.val (.int (s 20 - 1)),.val (.int 1),.unset] [] (put (b+1) pre s A post) Q)∧(Q (some (.int w)) (put (b+1) pre s A post)→M54 0 [.val (.ref (b+1)),.val (.int (s 20 - 1)),.val (.int 2),.unset] [] (put (b+1) pre s A post) Q)∧(Q (some (.int m)) (put (b+1) pre s A post)→M54 0 [.val (.ref (b+1)),.val (.int (s 20 - 1)),.val (.int 3),.unset] [] (put (b+1) pre s A post) Q)∧(Q (some (.int z)) (put (b+1) pre s A post)→M54 0 [.val (.ref (b+1)),.val (.int (s 20 - 1)),.val (.int 7),.unset] [] (put (b+1) pre s A post) Q)∧(0 < w→Q (some (.int (W 0))) (put (b+1) pre s A post)→M54 0 [.val (.ref (b+1)),.val (.int (s 20 - 1)),.val (.int 4),.unset] [] (put (b+1) pre s A post) Q)∧(1 < w→Q (some (.int (W 1))) (put (b+1) pre s A post)→M54 0 [.val (.ref (b+1)),.val (.int (s 20 - 1)),.val (.int 5),.unset] [] (put (b+1) pre s A post) Q)∧(2 < w→Q (some (.int (W 2))) (put (b+1) pre s A post)→M54 0 [.val (.ref (b+1)),.val (.int (s 20 - 1)),.val (.int 6),.unset] [] (put (b+1) pre s A post) Q):=by
  intro b pre post Q
  obtain ⟨f1,a,ha,hy,f4,f5,f6,f7,f8,f9⟩:=fw
  have e1:(s 20 - 1).toInt=(s 20).toInt - 1:=by have:=Int32.toInt_lt (s 20); exact sub_i (by rw [i_1]; omega) (by rw [i_1]; omega)
  have c1:(s 20 - 1 < 0)=False:=eq_false (by rw [lt_i,e1,i_0]; omega)
  have c2:(s 20 - 1 < s 20)=True:=eq_true (by rw [lt_i,e1]; omega)
  have q5:=in25 h ha
  have q6:=in26 h ha
  have q7:=in27 h ha
  have q8:=in28 h ha
  have q9:=in29 h ha
  have r0:=in30 h (i:=a * 3) (by omega)
  have r1:=in30 h (i:=a * 3+1) (by omega)
  have r2:=in30 h (i:=a * 3+2) (by omega)
  have w0:getA (A 30) (nI (a * 3))=W 0:=f9 0 (by omega)
  have w1:=f9 1 (by omega)
  have w2:=f9 2 (by omega)
  refine ⟨fun hq => ?_,fun hq => ?_,fun hq => ?_,fun hq => ?_,fun hq => ?_,fun g hq => ?_,fun g hq => ?_,fun g hq => ?_⟩
  · simp [c1,c2,hy,q5,f4,k54_0,k54_1,ks]; exact hq
  · simp [c1,c2,hy,q6,f5,k54_0,k54_1,ks]; exact hq
  · simp [c1,c2,hy,q7,f6,k54_0,k54_1,ks]; exact hq
  · simp [c1,c2,hy,q8,f7,k54_0,k54_1,ks]; exact hq
  · simp [c1,c2,hy,q9,f8,k54_0,k54_1,ks]; exact hq
  · simp [c1,c2,hy,q7,f6,g,r0,w0,nI_x3,nI_1,nI_2,k54_0,k54_1,ks,k55_0,ks]; exact hq
  · simp [c1,c2,hy,q7,f6,g,r1,w1,nI_x3,nI_1,nI_2,k54_0,k54_1,ks,k55_0,ks]; exact hq
  · simp [c1,c2,hy,q7,f6,g,r2,w2,nI_x3,nI_1,nI_2,k54_0,k54_1,ks,k55_0,ks]; exact hq
def rv (s:Nat→Int32) (A:Nat→List Int32) (r:Nat):Int32:=if r < 8 then getA (A 0) (nI r) else s 0
theorem lext {l l':List Int32}{n:Nat} (h:l.length=n) (h':l'.length=n) (hn:n≤4096) (e:∀ i,i < n→getA l (nI i)=getA l' (nI i)):l=l':=by
  apply List.ext_getElem (by omega)
  intro i h1 h2
  have q:=e i (by omega)
  simp only [getA,nI_cl (show i < 2147483648 by omega),List.getD_eq_getElem?_getD,List.getElem?_eq_getElem h1,List.getElem?_eq_getElem h2,Option.getD_some] at q
  exact q
set_option maxRecDepth 1000000 in
set_option maxHeartbeats 20000000 in
theorem grW {b:Nat}{pre post:AHeap}{r:Nat} (hr:r≤8) (h:LN A) (hq:Q (some (.int (rv s A r))) (put (b+1) pre s A post)):M34 0 [.val (.ref (b+1)),.val (.int (nI r))] [] (put (b+1) pre s A post) Q:=by
  unfold rv at hq
  have c1:(nI r < 0)=False:=nnF (by omega)
  by_cases g:r < 8
  · rw [if_pos g] at hq
    have c2:(7 < nI r)=False:=lF (a:=7) (by omega) (by decide)
    have q1:=in0 h g
    simp [c1,c2,q1,k34_0,ks,k2_0,ks]; exact hq
  · rw [if_neg g] at hq
    obtain rfl:r=8:=by omega
    have c2:(7 < nI 8)=True:=lT (a:=7) (by omega) (by decide)
    have c3:(nI 8=8)=True:=eT (c:=8) rfl
    simp [c1,c2,c3,k34_0,ks,k2_0,ks]; exact hq
theorem gmW {b:Nat}{pre post:AHeap}{r:Nat} (hr:r < 32) (h:LN A) (hq:Q (some (.int (getA (A 1) (nI r)))) (put (b+1) pre s A post)):M49 0 [.val (.ref (b+1)),.val (.int (nI r))] [] (put (b+1) pre s A post) Q:=by
  have c1:(nI r < 0)=False:=nnF (by omega)
  have c2:(31 < nI r)=False:=lF (a:=31) (by omega) (by decide)
  have q1:=in1 h hr
  simp [c1,c2,q1,k49_0,ks,k2_0,ks]; exact hq
theorem sgW {b:Nat}{pre post:AHeap}{r:Nat}{v:Int32} (hr:r < 8) (h:LN A) (hq:∀ w,Q (some (.int w)) (put (b+1) pre s (ou A 0 (setA (A 0) (nI r) v)) post)):M1 0 [.val (.ref (b+1)),.val (.int (nI r)),.val (.int (v))] [] (put (b+1) pre s A post) Q:=by
  have c1:(nI r < 0)=False:=nnF (by omega)
  have c2:(7 < nI r)=False:=lF (a:=7) (by omega) (by decide)
  have q1:=in0 h hr
  simp [c1,c2,q1,k1_0,k1_1,ks,k2_0,ks]; exact hq _
theorem sxW {b:Nat}{pre post:AHeap}{r:Nat}{v:Int32} (hr:r < 32) (h:LN A) (hq:∀ w,Q (some (.int w)) (put (b+1) pre s (ou A 1 (setA (A 1) (nI r) v)) post)):M27 0 [.val (.ref (b+1)),.val (.int (nI r)),.val (.int (v))] [] (put (b+1) pre s A post) Q:=by
  have c1:(nI r < 0)=False:=nnF (by omega)
  have c2:(31 < nI r)=False:=lF (a:=31) (by omega) (by decide)
  have q1:=in1 h hr
  simp [c1,c2,q1,k27_0,ks,k2_0,ks]; exact hq _
theorem spW {b:Nat}{pre post:AHeap}{x:Nat} (hx:x < 32) (hq:∀ w,Q (some (.int w)) (put (b+1) pre (ou (ou (ou s 0 (nI x)) 1 0) 2 0) A post)):M1 0 [.val (.ref (b+1)),.val (.int 8),.val (.int (nI x))] [] (put (b+1) pre s A post) Q:=by
  have c1:(nI x < 0)=False:=nnF (by omega)
  have c2:(31 < nI x)=False:=lF (a:=31) (by omega) (by decide)
  simp [c1,c2,k1_0,k1_1,ks,k2_0,ks]; exact hq _
section Chk
variable {i6 i7 i8 i9 i10 i11 i12 i13 i14 i15 i16 i17 i18 i19 i22 i23 i24 i27:Int32}{w1 w2:Int64}{V E:Nat→Int32}{q x H:Nat}{fv:Nat→Nat→Int32}{k:Int64→Int32→Int64}
theorem EV.sm {B':Nat→List Int32}{j:Nat}{v e:Int32} (h:EV B q j v e) (g:SM B B'):EV B' q j v e:=fun b pre post Q s A l m hq => h b pre post Q s A l ⟨m.1.trans g.1,m.2.1.trans g.2.1,m.2.2.1.trans g.2.2.1,m.2.2.2.1.trans g.2.2.2.1,m.2.2.2.2.1.trans g.2.2.2.2.1,m.2.2.2.2.2.trans g.2.2.2.2.2⟩ hq
theorem ms3 (a c d:Prop) [Decidable a] [Decidable c] [Decidable d]:(if d then (if c then (if a then (0:Int32) ||| ((1:Int32) <<< ((nI 1 - 1) &&& 31)) else 0) ||| ((1:Int32) <<< ((nI 2 - 1) &&& 31)) else (if a then (0:Int32) ||| ((1:Int32) <<< ((nI 1 - 1) &&& 31)) else 0)) ||| ((1:Int32) <<< ((nI 3 - 1) &&& 31)) else (if c then (if a then (0:Int32) ||| ((1:Int32) <<< ((nI 1 - 1) &&& 31)) else 0) ||| ((1:Int32) <<< ((nI 2 - 1) &&& 31)) else (if a then (0:Int32) ||| ((1:Int32) <<< ((nI 1 - 1) &&& 31)) else 0)))=((if a then (1:Int32) else 0) ||| (if c then 2 else 0)) ||| (if d then 4 else 0):=by
  by_cases h1:a <;> by_cases h2:c <;> by_cases h3:d <;> simp only [h1,h2,h3,if_true,if_false] <;> decide
theorem MS_law (k:Int32) (E:Nat→Int32):MS k E 4=((if 1 < k∧E 1 ≠ 0 then (1:Int32) else 0) ||| (if 2 < k∧E 2 ≠ 0 then 2 else 0)) ||| (if 3 < k∧E 3 ≠ 0 then 4 else 0):=by
  have m1:MS k E 1=0:=by rw [MS,if_neg (fun q => absurd q.1 (by decide))]; rfl
  have m2:MS k E 2=if 1 < k∧E 1 ≠ 0 then (0:Int32) ||| ((1:Int32) <<< ((nI 1 - 1) &&& 31)) else 0:=by
    rw [MS,m1]
    by_cases g:1 < k∧E 1 ≠ 0
    · rw [if_pos ⟨by decide,g⟩,if_pos g]
    · rw [if_neg (fun q => g q.2),if_neg g]
  have m3:MS k E 3=if 2 < k∧E 2 ≠ 0 then MS k E 2 ||| ((1:Int32) <<< ((nI 2 - 1) &&& 31)) else MS k E 2:=by
    rw [MS]
    by_cases g:2 < k∧E 2 ≠ 0
    · rw [if_pos ⟨by decide,g⟩,if_pos g]
    · rw [if_neg (fun q => g q.2),if_neg g]
  have m4:MS k E 4=if 3 < k∧E 3 ≠ 0 then MS k E 3 ||| ((1:Int32) <<< ((nI 3 - 1) &&& 31)) else MS k E 3:=by
    rw [MS]
    by_cases g:3 < k∧E 3 ≠ 0
    · rw [if_pos ⟨by decide,g⟩,if_pos g]
    · rw [if_neg (fun q => g q.2),if_neg g]
  rw [m4,m3,m2]
  exact ms3 _ _ _
set_option maxRecDepth 1000000 in
set_option maxHeartbeats 20000000 in
theorem fE (lp:LP vs Q n) (hl:vs.length≤260) (J:JV s A t B) (o4:okS l4) (o5:okS l5) (o28:okS l28) (hp:p < 300) (hn:vs.length≤p+n) (h10:¬ i10=0) (h24:i24=4) (h5:s 5=i10) (h18:s 22=i18) (hw:w2=w1):M67 1477 [.val (.ref 0),.val (.ref 1),.val (.ref 34),.val (.int (nI p)),l4,l5,.val (.int i6),.val (.int i7),.val (.int i8),.val (.int i9),.val (.int i10),.val (.int i11),.val (.int i12),.val (.int i13),.val (.int i14),.val (.int i15),.val (.int i16),.val (.int i17),.val (.int i18),.val (.int i19),.val (.long w1),.second,.val (.int i22),.val (.int i23),.val (.int i24),.val (.long w2),.second,.val (.int i27),l28] [] (put 1 [((FieldType.array .int,vs.map Value.int):FieldType × List Value)] s A (tl t B)) Q:=by
  simp [h10,h24,h5,h18,hw,cmp_e,m67_1477,m67_1482,m67_1488,m67_1489,m67_1490,m67_1493,m67_1495,m67_1498,m67_1499,m67_1500,m67_1501,m67_1503,m67_1506,m67_1508,m67_1511,m67_1799,ks,k38_0,k38_1,k39_0,k39_1]
  refine lp _ _ _ _ _ _ _ _ _ _ _ _ _ _ _ _ _ _ _ _ _ _ _ _ _ _ _ _ _ _ (J) ?_ (by omega) (by omega)
  refine ⟨?_,?_,?_,?_,?_,?_,?_,?_,?_,?_,?_,?_,?_,?_,?_,?_,?_,?_,?_,?_,?_,?_,?_⟩ <;> first | assumption | exact okS_i _ | exact Or.inr ⟨_,rfl,rfl⟩
theorem f0 (lp:LP vs Q n) (hl:vs.length≤260) (J:JV s A t B) (o4:okS l4) (o5:okS l5) (o28:okS l28) (hp:p < 300) (hn:vs.length≤p+n) (h10:i10=0) (h9:i9=0) (h24:i24=i23) (h18:s 22=i18) (hw:w2=w1):M67 1477 [.val (.ref 0),.val (.ref 1),.val (.ref 34),.val (.int (nI p)),l4,l5,.val (.int i6),.val (.int i7),.val (.int i8),.val (.int i9),.val (.int i10),.val (.int i11),.val (.int i12),.val (.int i13),.val (.int i14),.val (.int i15),.val (.int i16),.val (.int i17),.val (.int i18),.val (.int i19),.val (.long w1),.second,.val (.int i22),.val (.int i23),.val (.int i24),.val (.long w2),.second,.val (.int i27),l28] [] (put 1 [((FieldType.array .int,vs.map Value.int):FieldType × List Value)] s A (tl t B)) Q:=by
  simp [h10,h9,h24,h18,hw,cmp_e,m67_1477,m67_1521,m67_1526,m67_1533,m67_1534,m67_1536,m67_1539,m67_1541,m67_1544,m67_1799,ks,k38_0,k38_1,k39_0,k39_1]
  refine lp _ _ _ _ _ _ _ _ _ _ _ _ _ _ _ _ _ _ _ _ _ _ _ _ _ _ _ _ _ _ (J) ?_ (by omega) (by omega)
  refine ⟨?_,?_,?_,?_,?_,?_,?_,?_,?_,?_,?_,?_,?_,?_,?_,?_,?_,?_,?_,?_,?_,?_,?_⟩ <;> first | assumption | exact okS_i _ | exact Or.inr ⟨_,rfl,rfl⟩
theorem fF (lp:LP vs Q n) (hl:vs.length≤260) (J:JV s A t B) (o4:okS l4) (o5:okS l5) (o28:okS l28) (hp:p < 300) (hn:vs.length≤p+n) (h10:i10=0) (h9:¬ i9=0) (h18:s 22=i18+1) (hk:1≤i8.toInt) (fw:FW i6 i7 (i8 - 1) (MS i8 E 4) (i18+1) (VC i8 V E 4) s A) (h11:i11=HV i8 V E 1) (h12:i12=HV i8 V E 2) (h13:i13=HV i8 V E 3) (h14:i14=HE i8 E 1) (h15:i15=HE i8 E 2) (h16:i16=HE i8 E 3) (hm:(i19=0∧i24=2∧s 2=1) ∨ (¬ i19=0∧i24=i23)):M67 1477 [.val (.ref 0),.val (.ref 1),.val (.ref 34),.val (.int (nI p)),l4,l5,.val (.int i6),.val (.int i7),.val (.int i8),.val (.int i9),.val (.int i10),.val (.int i11),.val (.int i12),.val (.int i13),.val (.int i14),.val (.int i15),.val (.int i16),.val (.int i17),.val (.int i18),.val (.int i19),.val (.long w1),.second,.val (.int i22),.val (.int i23),.val (.int i24),.val (.long w2),.second,.val (.int i27),l28] [] (put 1 [((FieldType.array .int,vs.map Value.int):FieldType × List Value)] s A (tl t B)) Q:=by
  have fh:=fw.1
  have e1:(s 20 - 1).toInt=(s 20).toInt - 1:=by have:=Int32.toInt_lt (s 20); exact sub_i (by rw [i_1]; omega) (by rw [i_1]; omega)
  have c1:(s 20 - 1 < 0)=False:=eq_false (by rw [lt_i,e1,i_0]; omega)
  have e8:(i8 - 1).toInt=i8.toInt - 1:=by have:=Int32.toInt_lt i8; exact sub_i (by rw [i_1]; omega) (by rw [i_1]; omega)
  have G:=frG J.1.ln fw
  have E4:∀ v:Int32,M67 1768 [.val (.ref 0),.val (.ref 1),.val (.ref 34),.val (.int (nI p)),l4,l5,.val (.int i6),.val (.int i7),.val (.int i8),.val (.int i9),.val (.int i10),.val (.int i11),.val (.int i12),.val (.int i13),.val (.int i14),.val (.int i15),.val (.int i16),.val (.int i17),.val (.int i18),.val (.int i19),.val (.long w1),.second,.val (.int i22),.val (.int i23),.val (.int i24),.val (.long w2),.second,.val (.int (s 20 - 1)),.val (.int (v))] [] (put 1 [((FieldType.array .int,vs.map Value.int):FieldType × List Value)] s A (tl t B)) Q:=by
    intro v
    rcases hm with ⟨a,c,d⟩ | ⟨a,c⟩
    · simp [a,c,d,m67_1768,m67_1773,m67_1779,m67_1780,m67_1781,m67_1784,m67_1785,m67_1799,ks,k38_0,k38_1,k39_0,k39_1]
      refine lp _ _ _ _ _ _ _ _ _ _ _ _ _ _ _ _ _ _ _ _ _ _ _ _ _ _ _ _ _ _ (J) ?_ (by omega) (by omega)
      refine ⟨?_,?_,?_,?_,?_,?_,?_,?_,?_,?_,?_,?_,?_,?_,?_,?_,?_,?_,?_,?_,?_,?_,?_⟩ <;> first | assumption | exact okS_i _ | exact Or.inr ⟨_,rfl,rfl⟩
    · simp [a,c,m67_1768,m67_1790,m67_1799,ks]
      refine lp _ _ _ _ _ _ _ _ _ _ _ _ _ _ _ _ _ _ _ _ _ _ _ _ _ _ _ _ _ _ (J) ?_ (by omega) (by omega)
      refine ⟨?_,?_,?_,?_,?_,?_,?_,?_,?_,?_,?_,?_,?_,?_,?_,?_,?_,?_,?_,?_,?_,?_,?_⟩ <;> first | assumption | exact okS_i _ | exact Or.inr ⟨_,rfl,rfl⟩
  have E3:M67 1702 [.val (.ref 0),.val (.ref 1),.val (.ref 34),.val (.int (nI p)),l4,l5,.val (.int i6),.val (.int i7),.val (.int i8),.val (.int i9),.val (.int i10),.val (.int i11),.val (.int i12),.val (.int i13),.val (.int i14),.val (.int i15),.val (.int i16),.val (.int i17),.val (.int i18),.val (.int i19),.val (.long w1),.second,.val (.int i22),.val (.int i23),.val (.int i24),.val (.long w2),.second,.val (.int (s 20 - 1)),l28] [] (put 1 [((FieldType.array .int,vs.map Value.int):FieldType × List Value)] s A (tl t B)) Q:=by
    have ml:=MS_law i8 E
    generalize g1:(if 1 < i8∧E 1 ≠ 0 then (1:Int32) else 0)=a1 at ml
    generalize g2:(if 2 < i8∧E 2 ≠ 0 then (2:Int32) else 0)=a2 at ml
    generalize g3:(if 3 < i8∧E 3 ≠ 0 then (4:Int32) else 0)=a3 at ml
    have S4:M67 1752 [.val (.ref 0),.val (.ref 1),.val (.ref 34),.val (.int (nI p)),l4,l5,.val (.int i6),.val (.int i7),.val (.int i8),.val (.int i9),.val (.int i10),.val (.int i11),.val (.int i12),.val (.int i13),.val (.int i14),.val (.int i15),.val (.int i16),.val (.int i17),.val (.int i18),.val (.int i19),.val (.long w1),.second,.val (.int i22),.val (.int i23),.val (.int i24),.val (.long w2),.second,.val (.int (s 20 - 1)),l28] [.int ((a1 ||| a2) ||| a3)] (put 1 [((FieldType.array .int,vs.map Value.int):FieldType × List Value)] s A (tl t B)) Q:=by
      simp [o28,m67_1752g,m67_1754,m67_1755,m67_1758,ks]
      refine (G 0 _ _ _).2.2.2.1 ?_
      simp [ml,m67_1761,m67_1763,ks]
      exact E4 _
    have S3:M67 1735 [.val (.ref 0),.val (.ref 1),.val (.ref 34),.val (.int (nI p)),l4,l5,.val (.int i6),.val (.int i7),.val (.int i8),.val (.int i9),.val (.int i10),.val (.int i11),.val (.int i12),.val (.int i13),.val (.int i14),.val (.int i15),.val (.int i16),.val (.int i17),.val (.int i18),.val (.int i19),.val (.long w1),.second,.val (.int i22),.val (.int i23),.val (.int i24),.val (.long w2),.second,.val (.int (s 20 - 1)),l28] [.int (a1 ||| a2)] (put 1 [((FieldType.array .int,vs.map Value.int):FieldType × List Value)] s A (tl t B)) Q:=by
      by_cases b1:3 < i8
      · have k16:i16=E 3:=by rw [h16]; unfold HE; rw [if_pos (show nI 3 < i8 from b1)]
        by_cases b2:E 3=0
        · rw [if_neg (fun r => r.2 b2)] at g3
          subst g3
          simp [b1,k16,b2,m67_1735,m67_1741,m67_1746,m67_1750,m67_1751,ks]
          simpa [k16,b2] using S4
        · rw [if_pos ⟨b1,b2⟩] at g3
          subst g3
          simp [b1,k16,b2,m67_1735,m67_1741,m67_1746,m67_1750,m67_1751,ks]
          simpa [k16] using S4
      · rw [if_neg (fun r => b1 r.1)] at g3
        subst g3
        simp [b1,m67_1735,m67_1741,m67_1746,m67_1750,m67_1751,ks]
        simpa using S4
    have S2:M67 1718 [.val (.ref 0),.val (.ref 1),.val (.ref 34),.val (.int (nI p)),l4,l5,.val (.int i6),.val (.int i7),.val (.int i8),.val (.int i9),.val (.int i10),.val (.int i11),.val (.int i12),.val (.int i13),.val (.int i14),.val (.int i15),.val (.int i16),.val (.int i17),.val (.int i18),.val (.int i19),.val (.long w1),.second,.val (.int i22),.val (.int i23),.val (.int i24),.val (.long w2),.second,.val (.int (s 20 - 1)),l28] [.int a1] (put 1 [((FieldType.array .int,vs.map Value.int):FieldType × List Value)] s A (tl t B)) Q:=by
      by_cases b1:2 < i8
      · have k16:i15=E 2:=by rw [h15]; unfold HE; rw [if_pos (show nI 2 < i8 from b1)]
        by_cases b2:E 2=0
        · rw [if_neg (fun r => r.2 b2)] at g2
          subst g2
          simp [b1,k16,b2,m67_1718,m67_1724,m67_1729,m67_1733,m67_1734,ks]
          simpa [k16,b2] using S3
        · rw [if_pos ⟨b1,b2⟩] at g2
          subst g2
          simp [b1,k16,b2,m67_1718,m67_1724,m67_1729,m67_1733,m67_1734,ks]
          simpa [k16] using S3
      · rw [if_neg (fun r => b1 r.1)] at g2
        subst g2
        simp [b1,m67_1718,m67_1724,m67_1729,m67_1733,m67_1734,ks]
        simpa using S3
    by_cases b1:1 < i8
    · have k16:i14=E 1:=by rw [h14]; unfold HE; rw [if_pos (show nI 1 < i8 from b1)]
      by_cases b2:E 1=0
      · rw [if_neg (fun r => r.2 b2)] at g1
        subst g1
        simp [b1,k16,b2,m67_1702,m67_1708,m67_1713,m67_1717,ks]
        simpa [k16,b2] using S2
      · rw [if_pos ⟨b1,b2⟩] at g1
        subst g1
        simp [b1,k16,b2,m67_1702,m67_1708,m67_1713,m67_1717,ks]
        simpa [k16] using S2
    · rw [if_neg (fun r => b1 r.1)] at g1
      subst g1
      simp [b1,m67_1702,m67_1708,m67_1713,m67_1717,ks]
      exact S2
  have D3:M67 1681 [.val (.ref 0),.val (.ref 1),.val (.ref 34),.val (.int (nI p)),l4,l5,.val (.int i6),.val (.int i7),.val (.int i8),.val (.int i9),.val (.int i10),.val (.int i11),.val (.int i12),.val (.int i13),.val (.int i14),.val (.int i15),.val (.int i16),.val (.int i17),.val (.int i18),.val (.int i19),.val (.long w1),.second,.val (.int i22),.val (.int i23),.val (.int i24),.val (.long w2),.second,.val (.int (s 20 - 1)),l28] [] (put 1 [((FieldType.array .int,vs.map Value.int):FieldType × List Value)] s A (tl t B)) Q:=by
    by_cases b1:3 < i8
    · have b2:2 < i8 - 1:=by rw [lt_i] at b1 ⊢; rw [e8]; have a3:(3:Int32).toInt=3:=rfl; have a2:(2:Int32).toInt=2:=rfl; omega
      simp [b1,m67_1681,m67_1687,m67_1688,m67_1692,ks]
      refine (G 0 _ _ _).2.2.2.2.2.2.2 b2 ?_
      have e:VC i8 V E 4 2=i13:=by rw [VC_HV (by omega),h13]
      simp [e,m67_1695,m67_1697,ks]
      exact E3
    · simp [b1,m67_1681,ks]
      exact E3
  have D2:M67 1661 [.val (.ref 0),.val (.ref 1),.val (.ref 34),.val (.int (nI p)),l4,l5,.val (.int i6),.val (.int i7),.val (.int i8),.val (.int i9),.val (.int i10),.val (.int i11),.val (.int i12),.val (.int i13),.val (.int i14),.val (.int i15),.val (.int i16),.val (.int i17),.val (.int i18),.val (.int i19),.val (.long w1),.second,.val (.int i22),.val (.int i23),.val (.int i24),.val (.long w2),.second,.val (.int (s 20 - 1)),l28] [] (put 1 [((FieldType.array .int,vs.map Value.int):FieldType × List Value)] s A (tl t B)) Q:=by
    by_cases b1:2 < i8
    · have b2:1 < i8 - 1:=by rw [lt_i] at b1 ⊢; rw [e8]; have a3:(1:Int32).toInt=1:=rfl; have a2:(2:Int32).toInt=2:=rfl; omega
      simp [b1,m67_1661,m67_1667,m67_1668,m67_1671,ks]
      refine (G 0 _ _ _).2.2.2.2.2.2.1 b2 ?_
      have e:VC i8 V E 4 1=i12:=by rw [VC_HV (by omega),h12]
      simp [e,m67_1674,m67_1676,ks]
      exact D3
    · simp [b1,m67_1661,ks]
      exact D3
  have D1:M67 1641 [.val (.ref 0),.val (.ref 1),.val (.ref 34),.val (.int (nI p)),l4,l5,.val (.int i6),.val (.int i7),.val (.int i8),.val (.int i9),.val (.int i10),.val (.int i11),.val (.int i12),.val (.int i13),.val (.int i14),.val (.int i15),.val (.int i16),.val (.int i17),.val (.int i18),.val (.int i19),.val (.long w1),.second,.val (.int i22),.val (.int i23),.val (.int i24),.val (.long w2),.second,.val (.int (s 20 - 1)),l28] [] (put 1 [((FieldType.array .int,vs.map Value.int):FieldType × List Value)] s A (tl t B)) Q:=by
    by_cases b1:1 < i8
    · have b2:0 < i8 - 1:=by rw [lt_i] at b1 ⊢; rw [e8]; have a3:(1:Int32).toInt=1:=rfl; have a2:(0:Int32).toInt=0:=rfl; omega
      simp [b1,m67_1641,m67_1647,m67_1648,m67_1651,ks]
      refine (G 0 _ _ _).2.2.2.2.2.1 b2 ?_
      have e:VC i8 V E 4 0=i11:=by rw [VC_HV (by omega),h11]
      simp [e,m67_1654,m67_1656,ks]
      exact D2
    · simp [b1,m67_1641,ks]
      exact D2
  simp [h10,h9,h18,c1,m67_1477,m67_1521,m67_1554,m67_1555,m67_1557,m67_1560,m67_1564,m67_1567,m67_1568,m67_1569,m67_1570,m67_1572,m67_1575,m67_1576,m67_1577i,m67_1579,m67_1584,m67_1585,m67_1588,ks,k38_0,k38_1,k39_0,k39_1]
  refine (G 0 _ _ _).1 ?_
  simp [m67_1591,m67_1593,m67_1596,m67_1597,m67_1600,ks]
  refine (G 0 _ _ _).2.1 ?_
  simp [m67_1603,m67_1605,m67_1608,m67_1609,m67_1610,m67_1611,m67_1614,ks]
  refine (G 0 _ _ _).2.2.1 ?_
  simp [m67_1617,m67_1621,m67_1624,m67_1625,m67_1629,ks]
  refine (G 0 _ _ _).2.2.2.2.1 ?_
  simp [m67_1632,m67_1636,ks]
  rw [h10] at D1
  exact D1
set_option maxRecDepth 1000000 in
set_option maxHeartbeats 20000000 in
theorem fai {f:Nat} (hk:∀ (w:Int64) (v:Int32),w * 1000003+v.toInt64=k w v) (hF:FVok fv s A) (hf:f < 2147483648):∀ (r g:Nat) (w:Int64),g+r=8→M67 1185 [.val (.ref 0),.val (.ref 1),.val (.ref 34),l3,l4,l5,l6,l7,l8,l9,l10,l11,l12,l13,l14,l15,l16,l17,l18,l19,.val (.long (fpg k (fv f) r w)),.second,.val (.int (nI f)),.val (.int (nI 8)),l24,l25,l26,l27,l28] [] (put 1 [((FieldType.array .int,vs.map Value.int):FieldType × List Value)] s A (tl t B)) Q→M67 1154 [.val (.ref 0),.val (.ref 1),.val (.ref 34),l3,l4,l5,l6,l7,l8,l9,l10,l11,l12,l13,l14,l15,l16,l17,l18,l19,.val (.long (w)),.second,.val (.int (nI f)),.val (.int (nI g)),l24,l25,l26,l27,l28] [] (put 1 [((FieldType.array .int,vs.map Value.int):FieldType × List Value)] s A (tl t B)) Q:=by
  intro r
  induction r with
  | zero =>
    intro g w e hq
    obtain rfl:g=8:=by omega
    have c1:(nI 8 < 8)=False:=lF (c:=8) (by omega) (by omega)
    rw [m67_1154]
    simp [c1,ks]
    rw [fpg_z] at hq
    exact hq
  | succ r ih =>
    intro g w e hq
    rw [fpg_s k (fv f) w (show 8 - (r+1)=g by omega)] at hq
    have c1:(nI g < 8)=True:=lT (c:=8) (by omega) (by decide)
    rw [m67_1154]
    simp [c1,m67_1161,m67_1167,m67_1168,m67_1172,m67_1175,m67_1176,m67_1177,m67_1179,ks]
    refine hF f _ hf (by omega) 0 _ _ _ ?_
    simp [nI_1,hk,m67_1161,m67_1167,m67_1168,m67_1172,m67_1175,m67_1176,m67_1177,m67_1179,ks]
    exact ih (g+1) _ (by omega) hq
theorem fao (hk:∀ (w:Int64) (v:Int32),w * 1000003+v.toInt64=k w v) (hF:FVok fv s A) (hH:s 20=nI H) (hH2:H < 2147483648):∀ (r f:Nat) (w:Int64) (lg:Slot),f+r=H→okS lg→(∀ lg,okS lg→M67 1191 [.val (.ref 0),.val (.ref 1),.val (.ref 34),l3,l4,l5,l6,l7,l8,l9,l10,l11,l12,l13,l14,l15,l16,l17,l18,l19,.val (.long (fpo k fv H r w)),.second,.val (.int (nI H)),lg,l24,l25,l26,l27,l28] [] (put 1 [((FieldType.array .int,vs.map Value.int):FieldType × List Value)] s A (tl t B)) Q)→M67 1140 [.val (.ref 0),.val (.ref 1),.val (.ref 34),l3,l4,l5,l6,l7,l8,l9,l10,l11,l12,l13,l14,l15,l16,l17,l18,l19,.val (.long (w)),.second,.val (.int (nI f)),lg,l24,l25,l26,l27,l28] [] (put 1 [((FieldType.array .int,vs.map Value.int):FieldType × List Value)] s A (tl t B)) Q:=by
  intro r
  induction r with
  | zero =>
    intro f w lg e og hq
    have c1:(nI f < nI H)=False:=lF (by omega) (by omega)
    rw [m67_1140]
    simp [hH,c1,m67_1142,m67_1143,m67_1145,m67_1148,ks,k38_0,k38_1,k39_0,k39_1]
    obtain rfl:f=H:=by omega
    have hq':=hq _ og
    rw [fpo_z] at hq'
    exact hq'
  | succ r ih =>
    intro f w lg e og hq
    have c1:(nI f < nI H)=True:=lT (by omega) (by omega)
    rw [m67_1140]
    simp [hH,c1,og,k67_28,ks,k38_0,k38_1,k39_0,k39_1]
    rw [fpo_s k fv w (show H - (r+1)=f by omega)] at hq
    refine fai hk hF (by omega) 8 0 w (by omega) ?_
    generalize fpg k (fv f) 8 w=w' at hq ⊢
    simp [nI_1,m67_1185,ks]
    exact ih (f+1) w' _ (by omega) (okS_i _) hq
set_option maxRecDepth 1000000 in
set_option maxHeartbeats 20000000 in
theorem fbi {f:Nat} (hk:∀ (w:Int64) (v:Int32),w * 1000003+v.toInt64=k w v) (hF:FVok fv s A) (hf:f < 2147483648):∀ (r g:Nat) (w:Int64),g+r=8→M67 1471 [.val (.ref 0),.val (.ref 1),.val (.ref 34),l3,l4,l5,l6,l7,l8,l9,l10,l11,l12,l13,l14,l15,l16,l17,l18,l19,l20,l21,l22,l23,l24,.val (.long (fpg k (fv f) r w)),.second,.val (.int (nI f)),.val (.int (nI 8))] [] (put 1 [((FieldType.array .int,vs.map Value.int):FieldType × List Value)] s A (tl t B)) Q→M67 1440 [.val (.ref 0),.val (.ref 1),.val (.ref 34),l3,l4,l5,l6,l7,l8,l9,l10,l11,l12,l13,l14,l15,l16,l17,l18,l19,l20,l21,l22,l23,l24,.val (.long (w)),.second,.val (.int (nI f)),.val (.int (nI g))] [] (put 1 [((FieldType.array .int,vs.map Value.int):FieldType × List Value)] s A (tl t B)) Q:=by
  intro r
  induction r with
  | zero =>
    intro g w e hq
    obtain rfl:g=8:=by omega
    have c1:(nI 8 < 8)=False:=lF (c:=8) (by omega) (by omega)
    rw [m67_1440]
    simp [c1,ks]
    rw [fpg_z] at hq
    exact hq
  | succ r ih =>
    intro g w e hq
    rw [fpg_s k (fv f) w (show 8 - (r+1)=g by omega)] at hq
    have c1:(nI g < 8)=True:=lT (c:=8) (by omega) (by decide)
    rw [m67_1440]
    simp [c1,m67_1447,m67_1453,m67_1454,m67_1458,m67_1461,m67_1462,m67_1463,m67_1465,ks]
    refine hF f _ hf (by omega) 0 _ _ _ ?_
    simp [nI_1,hk,m67_1447,m67_1453,m67_1454,m67_1458,m67_1461,m67_1462,m67_1463,m67_1465,ks]
    exact ih (g+1) _ (by omega) hq
theorem fbo (hk:∀ (w:Int64) (v:Int32),w * 1000003+v.toInt64=k w v) (hF:FVok fv s A) (hH:s 20=nI H) (hH2:H < 2147483648):∀ (r f:Nat) (w:Int64) (lg:Slot),f+r=H→okS lg→(∀ lg,okS lg→M67 1477 [.val (.ref 0),.val (.ref 1),.val (.ref 34),l3,l4,l5,l6,l7,l8,l9,l10,l11,l12,l13,l14,l15,l16,l17,l18,l19,l20,l21,l22,l23,l24,.val (.long (fpo k fv H r w)),.second,.val (.int (nI H)),lg] [] (put 1 [((FieldType.array .int,vs.map Value.int):FieldType × List Value)] s A (tl t B)) Q)→M67 1426 [.val (.ref 0),.val (.ref 1),.val (.ref 34),l3,l4,l5,l6,l7,l8,l9,l10,l11,l12,l13,l14,l15,l16,l17,l18,l19,l20,l21,l22,l23,l24,.val (.long (w)),.second,.val (.int (nI f)),lg] [] (put 1 [((FieldType.array .int,vs.map Value.int):FieldType × List Value)] s A (tl t B)) Q:=by
  intro r
  induction r with
  | zero =>
    intro f w lg e og hq
    have c1:(nI f < nI H)=False:=lF (by omega) (by omega)
    rw [m67_1426]
    simp [hH,c1,m67_1428,m67_1429,m67_1431,m67_1434,ks,k38_0,k38_1,k39_0,k39_1]
    obtain rfl:f=H:=by omega
    have hq':=hq _ og
    rw [fpo_z] at hq'
    exact hq'
  | succ r ih =>
    intro f w lg e og hq
    have c1:(nI f < nI H)=True:=lT (by omega) (by omega)
    rw [m67_1426]
    simp [hH,c1,og,k67_37,ks,k38_0,k38_1,k39_0,k39_1]
    rw [fpo_s k fv w (show H - (r+1)=f by omega)] at hq
    refine fbi hk hF (by omega) 8 0 w (by omega) ?_
    generalize fpg k (fv f) 8 w=w' at hq ⊢
    simp [nI_1,m67_1471,ks]
    exact ih (f+1) w' _ (by omega) (okS_i _) hq
variable {R M:List Int32}{y:Nat}{hh:Int32}
set_option maxRecDepth 1000000 in
set_option maxHeartbeats 20000000 in
theorem si0 {b:Nat}{pre post:AHeap}{s:Nat→Int32}{A:Nat→List Int32}{Q:Option Value→AHeap→Prop} (hq4:q < 4) (h:LN A) (hq:Q (some (.int (getA (A 7) (nI q)))) (put (b+1) pre s A post)):M33 0 [.val (.ref (b+1)),.val (.int (nI q)),.val (.int 0),.unset] [] (put (b+1) pre s A post) Q:=by
  have c1:(nI q < 0)=False:=nnF (by omega)
  have c2:=g3F hq4
  have q7:=in7 h hq4
  have q8:=in8 h hq4
  have q9:=in9 h hq4
  have q10:=in10 h hq4
  have q11:=in11 h hq4
  by_cases g:getA (A 7) (nI q)=2
  · simp [c1,c2,q7,q8,q9,q10,q11,g,k33_0,k33_1,k33_2,ks,k2_0,ks]; rw [g] at hq; exact hq
  · simp [c1,c2,q7,q8,q9,q10,q11,g,k33_0,k33_1,k33_2,ks,k2_0,ks]; exact hq
set_option maxRecDepth 1000000 in
set_option maxHeartbeats 20000000 in
theorem si1 {b:Nat}{pre post:AHeap}{s:Nat→Int32}{A:Nat→List Int32}{Q:Option Value→AHeap→Prop} (hq4:q < 4) (h:LN A) (hst:getA (A 7) (nI q)=2) (hq:Q (some (.int (getA (A 8) (nI q)))) (put (b+1) pre s A post)):M33 0 [.val (.ref (b+1)),.val (.int (nI q)),.val (.int 1),.unset] [] (put (b+1) pre s A post) Q:=by
  have c1:(nI q < 0)=False:=nnF (by omega)
  have c2:=g3F hq4
  have q7:=in7 h hq4
  have q8:=in8 h hq4
  have q9:=in9 h hq4
  have q10:=in10 h hq4
  have q11:=in11 h hq4
  by_cases g:getA (A 7) (nI q)=2
  · simp [c1,c2,q7,q8,q9,q10,q11,g,k33_0,k33_1,k33_2,ks,k2_0,ks]; exact hq
  · exact absurd hst g
set_option maxRecDepth 1000000 in
set_option maxHeartbeats 20000000 in
theorem si2 {b:Nat}{pre post:AHeap}{s:Nat→Int32}{A:Nat→List Int32}{Q:Option Value→AHeap→Prop} (hq4:q < 4) (h:LN A) (hst:getA (A 7) (nI q)=2) (hq:Q (some (.int (getA (A 9) (nI q)))) (put (b+1) pre s A post)):M33 0 [.val (.ref (b+1)),.val (.int (nI q)),.val (.int 2),.unset] [] (put (b+1) pre s A post) Q:=by
  have c1:(nI q < 0)=False:=nnF (by omega)
  have c2:=g3F hq4
  have q7:=in7 h hq4
  have q8:=in8 h hq4
  have q9:=in9 h hq4
  have q10:=in10 h hq4
  have q11:=in11 h hq4
  by_cases g:getA (A 7) (nI q)=2
  · simp [c1,c2,q7,q8,q9,q10,q11,g,k33_0,k33_1,k33_2,ks,k2_0,ks]; exact hq
  · exact absurd hst g
set_option maxRecDepth 1000000 in
set_option maxHeartbeats 20000000 in
theorem si3 {b:Nat}{pre post:AHeap}{s:Nat→Int32}{A:Nat→List Int32}{Q:Option Value→AHeap→Prop} (hq4:q < 4) (h:LN A) (hq:Q (some (.int (getA (A 10) (nI q)))) (put (b+1) pre s A post)):M33 0 [.val (.ref (b+1)),.val (.int (nI q)),.val (.int 3),.unset] [] (put (b+1) pre s A post) Q:=by
  have c1:(nI q < 0)=False:=nnF (by omega)
  have c2:=g3F hq4
  have q7:=in7 h hq4
  have q8:=in8 h hq4
  have q9:=in9 h hq4
  have q10:=in10 h hq4
  have q11:=in11 h hq4
  by_cases g:getA (A 7) (nI q)=2
  · simp [c1,c2,q7,q8,q9,q10,q11,g,k33_0,k33_1,k33_2,ks,k2_0,ks]; exact hq
  · simp [c1,c2,q7,q8,q9,q10,q11,g,k33_0,k33_1,k33_2,ks,k2_0,ks]; exact hq
set_option maxRecDepth 1000000 in
set_option maxHeartbeats 20000000 in
theorem si4 {b:Nat}{pre post:AHeap}{s:Nat→Int32}{A:Nat→List Int32}{Q:Option Value→AHeap→Prop} (hq4:q < 4) (h:LN A) (hst:¬ getA (A 7) (nI q)=0) (hq:Q (some (.int (getA (A 11) (nI q)))) (put (b+1) pre s A post)):M33 0 [.val (.ref (b+1)),.val (.int (nI q)),.val (.int 4),.unset] [] (put (b+1) pre s A post) Q:=by
  have c1:(nI q < 0)=False:=nnF (by omega)
  have c2:=g3F hq4
  have q7:=in7 h hq4
  have q8:=in8 h hq4
  have q9:=in9 h hq4
  have q10:=in10 h hq4
  have q11:=in11 h hq4
  by_cases g:getA (A 7) (nI q)=2
  · simp [c1,c2,q7,q8,q9,q10,q11,g,k33_0,k33_1,k33_2,ks,k2_0,ks]; exact hq
  · simp [c1,c2,q7,q8,q9,q10,q11,g,hst,k33_0,k33_1,k33_2,ks,k2_0,ks]; exact hq
set_option maxRecDepth 1000000 in
set_option maxHeartbeats 20000000 in
theorem cpA (h:LN A) (hB:LN B) (e0:B 0=A 0) (es0:t 0=s 0) (hq:M67 1354 [.val (.ref 0),.val (.ref 1),.val (.ref 34),.val (.int (nI p)),l4,l5,.val (.int i6),.val (.int i7),.val (.int i8),.val (.int i9),.val (.int i10),.val (.int i11),.val (.int i12),.val (.int i13),.val (.int i14),.val (.int i15),.val (.int i16),.val (.int i17),.val (.int i18),.val (.int i19),.val (.long w1),.second,.val (.int i22),.val (.int i23),.val (.int i24),.val (.int (nI 9)),.unset,l27,l28] [] (put 1 [((FieldType.array .int,vs.map Value.int):FieldType × List Value)] s A (tl t B)) Q):∀ (r i:Nat),i+r=9→M67 1324 [.val (.ref 0),.val (.ref 1),.val (.ref 34),.val (.int (nI p)),l4,l5,.val (.int i6),.val (.int i7),.val (.int i8),.val (.int i9),.val (.int i10),.val (.int i11),.val (.int i12),.val (.int i13),.val (.int i14),.val (.int i15),.val (.int i16),.val (.int i17),.val (.int i18),.val (.int i19),.val (.long w1),.second,.val (.int i22),.val (.int i23),.val (.int i24),.val (.int (nI i)),.unset,l27,l28] [] (put 1 [((FieldType.array .int,vs.map Value.int):FieldType × List Value)] s A (tl t B)) Q:=by
  intro r
  induction r with
  | zero =>
    intro i e
    obtain rfl:i=9:=by omega
    have c1:(nI 9 < 9)=False:=lF (c:=9) (by omega) (by omega)
    rw [m67_1324]
    simp [c1,ks]
    exact hq
  | succ r ih =>
    intro i e
    have c1:(nI i < 9)=True:=lT (c:=9) (by omega) (by decide)
    have ev:rv t B i=rv s A i:=by unfold rv; rw [e0,es0]
    rw [m67_1324]
    simp [c1,m67_1331,m67_1332,m67_1334,ks]
    refine grW (r:=i) (by omega) h ?_
    simp [m67_1337,m67_1338,m67_1340,ks]
    rw [vw]
    simp [m67_1337,m67_1338,m67_1340,ks]
    refine grW (b:=33) (r:=i) (by omega) hB ?_
    simp [ev,nI_1,m67_1343,m67_1346,m67_1347,m67_1348,ks]
    rw [← vw]
    exact ih (i+1) (by omega)
set_option maxRecDepth 1000000 in
set_option maxHeartbeats 20000000 in
theorem cpB (h:LN A) (hB:LN B) (e1:B 1=A 1) (hq:M67 1387 [.val (.ref 0),.val (.ref 1),.val (.ref 34),.val (.int (nI p)),l4,l5,.val (.int i6),.val (.int i7),.val (.int i8),.val (.int i9),.val (.int i10),.val (.int i11),.val (.int i12),.val (.int i13),.val (.int i14),.val (.int i15),.val (.int i16),.val (.int i17),.val (.int i18),.val (.int i19),.val (.long w1),.second,.val (.int i22),.val (.int i23),.val (.int i24),.val (.int (nI 32)),.unset,l27,l28] [] (put 1 [((FieldType.array .int,vs.map Value.int):FieldType × List Value)] s A (tl t B)) Q):∀ (r i:Nat),i+r=32→M67 1357 [.val (.ref 0),.val (.ref 1),.val (.ref 34),.val (.int (nI p)),l4,l5,.val (.int i6),.val (.int i7),.val (.int i8),.val (.int i9),.val (.int i10),.val (.int i11),.val (.int i12),.val (.int i13),.val (.int i14),.val (.int i15),.val (.int i16),.val (.int i17),.val (.int i18),.val (.int i19),.val (.long w1),.second,.val (.int i22),.val (.int i23),.val (.int i24),.val (.int (nI i)),.unset,l27,l28] [] (put 1 [((FieldType.array .int,vs.map Value.int):FieldType × List Value)] s A (tl t B)) Q:=by
  intro r
  induction r with
  | zero =>
    intro i e
    obtain rfl:i=32:=by omega
    have c1:(nI 32 < 32)=False:=lF (c:=32) (by omega) (by omega)
    rw [m67_1357]
    simp [c1,ks]
    exact hq
  | succ r ih =>
    intro i e
    have c1:(nI i < 32)=True:=lT (c:=32) (by omega) (by decide)
    have ev:getA (B 1) (nI i)=getA (A 1) (nI i):=by rw [e1]
    rw [m67_1357]
    simp [c1,m67_1364,m67_1365,m67_1367,ks]
    refine gmW (r:=i) (by omega) h ?_
    simp [m67_1370,m67_1371,m67_1373,ks]
    rw [vw]
    simp [m67_1370,m67_1371,m67_1373,ks]
    refine gmW (b:=33) (r:=i) (by omega) hB ?_
    simp [ev,nI_1,m67_1376,m67_1379,m67_1380,m67_1381,ks]
    rw [← vw]
    exact ih (i+1) (by omega)
set_option maxRecDepth 1000000 in
set_option maxHeartbeats 20000000 in
theorem cpS (es1:t 1=s 1) (hq:M67 1402 [.val (.ref 0),.val (.ref 1),.val (.ref 34),.val (.int (nI p)),l4,l5,.val (.int i6),.val (.int i7),.val (.int i8),.val (.int i9),.val (.int i10),.val (.int i11),.val (.int i12),.val (.int i13),.val (.int i14),.val (.int i15),.val (.int i16),.val (.int i17),.val (.int i18),.val (.int i19),.val (.long w1),.second,.val (.int i22),.val (.int i23),.val (.int i24),.val (.int (nI 32)),.unset,l27,l28] [] (put 1 [((FieldType.array .int,vs.map Value.int):FieldType × List Value)] s A (tl t B)) Q):M67 1387 [.val (.ref 0),.val (.ref 1),.val (.ref 34),.val (.int (nI p)),l4,l5,.val (.int i6),.val (.int i7),.val (.int i8),.val (.int i9),.val (.int i10),.val (.int i11),.val (.int i12),.val (.int i13),.val (.int i14),.val (.int i15),.val (.int i16),.val (.int i17),.val (.int i18),.val (.int i19),.val (.long w1),.second,.val (.int i22),.val (.int i23),.val (.int i24),.val (.int (nI 32)),.unset,l27,l28] [] (put 1 [((FieldType.array .int,vs.map Value.int):FieldType × List Value)] s A (tl t B)) Q:=by
  by_cases z:s 1=0
  · have z':=es1.trans z
    simp [z,m67_1387,m67_1388,m67_1389,m67_1392,m67_1393,m67_1394,ks,k38_0,k38_1,k39_0,k39_1]
    rw [vw]
    simp [z',m67_1394,m67_1397,ks,k38_0,k38_1,k39_0,k39_1]
    rw [← vw]
    exact hq
  · have z':¬ t 1=0:=by rw [es1]; exact z
    simp [z,m67_1387,m67_1388,m67_1389,m67_1392,m67_1393,m67_1394,ks,k38_0,k38_1,k39_0,k39_1]
    rw [vw]
    simp [z',m67_1394,m67_1397,ks,k38_0,k38_1,k39_0,k39_1]
    rw [← vw]
    exact hq
theorem p8a (hk:∀ (w:Int64) (v:Int32),w * 1000003+v.toInt64=k w v) (h:LN A) (hB:LN B) (hq4:q < 4) (e0:B 0=A 0) (e1:B 1=A 1) (es0:t 0=s 0) (es1:t 1=s 1) (hit:getA (A 10) (nI q)=i17+1) (hF:FVok fv s A) (hH:s 20=nI H) (hH2:H < 2147483648) (o25:PRo l25 l26) (o27:okS l27) (o28:okS l28)
    (hq:∀ l28,okS l28→M67 1477 [.val (.ref 0),.val (.ref 1),.val (.ref 34),.val (.int (nI p)),l4,l5,.val (.int i6),.val (.int (nI q)),.val (.int i8),.val (.int i9),.val (.int i10),.val (.int i11),.val (.int i12),.val (.int i13),.val (.int i14),.val (.int i15),.val (.int i16),.val (.int i17),.val (.int i18),.val (.int i19),.val (.long w1),.second,.val (.int i22),.val (.int i23),.val (.int i24),.val (.long (fpo k fv H H (k (s 20).toInt64 (s 21)))),.second,.val (.int (nI H)),l28] [] (put 1 [((FieldType.array .int,vs.map Value.int):FieldType × List Value)] s A (tl t B)) Q):M67 1305 [.val (.ref 0),.val (.ref 1),.val (.ref 34),.val (.int (nI p)),l4,l5,.val (.int i6),.val (.int (nI q)),.val (.int i8),.val (.int i9),.val (.int i10),.val (.int i11),.val (.int i12),.val (.int i13),.val (.int i14),.val (.int i15),.val (.int i16),.val (.int i17),.val (.int i18),.val (.int i19),.val (.long w1),.second,.val (.int i22),.val (.int i23),.val (.int i24),l25,l26,l27,l28] [] (put 1 [((FieldType.array .int,vs.map Value.int):FieldType × List Value)] s A (tl t B)) Q:=by
  simp [m67_1305,m67_1306,m67_1309,ks]
  refine si3 hq4 h ?_
  simp [hit,m67_1312,m67_1316,m67_1319,m67_1320,m67_1321,ks]
  rw [u1322 o25]
  refine cpA h hB e0 es0 ?_ 9 0 (by omega)
  simp [m67_1354,ks]
  refine cpB h hB e1 ?_ 32 0 (by omega)
  refine cpS es1 ?_
  simp [o27,hk,m67_1402,m67_1403,m67_1405,m67_1408,m67_1409,m67_1412,m67_1413,m67_1414,m67_1416,m67_1419,m67_1420,m67_1421,m67_1423,m67_1424g,ks,k38_0,k38_1,k39_0,k39_1]
  exact fbo hk hF hH hH2 H 0 _ _ (by omega) o28 hq
set_option maxRecDepth 1000000 in
set_option maxHeartbeats 20000000 in
theorem p7d (hk:∀ (w:Int64) (v:Int32),w * 1000003+v.toInt64=k w v) (lp:LP vs Q n) (hl:vs.length≤260) (J:JV s A t B) (o4:okS l4) (o5:okS l5) (o28:okS l28) (hp:p < 300) (hn:vs.length≤p+n) (hq4:q < 4) (hx:x < 32) (h0:s 0=nI x) (hs1:s 1=0) (hs2:s 2=0) (hst:getA (A 7) (nI q)=2) (had:getA (A 8) (nI q)=nI x) (nf:s 20 < s 17 ∨ s 18=0) (hE:∀ j,j < 4→EV A q j (V j) (E j)) (h6:i6=nI x) (h7:i7=nI q) (h8:i8=getA (A 11) (nI q)) (h9:i9=if E 0=0 then V 0 else 0) (h10:i10=E 0) (h11:i11=HV i8 V E 1) (h12:i12=HV i8 V E 2) (h13:i13=HV i8 V E 3) (h14:i14=HE i8 E 1) (h15:i15=HE i8 E 2) (h16:i16=HE i8 E 3) (h17:i17=getA (A 10) (nI q)) (h18:i18=s 22) (h19:i19=getA (A 9) (nI q)) (hw:w1=fpo k fv H H (k (s 20).toInt64 (s 21))) (hF:∀ s' A',LN A'→s' 19=s 19→s' 20=s 20→(∀ j,25≤j∧j≤30→A' j=A j)→FVok fv s' A') (hH:s 20=nI H) (hH2:H < 2147483648) (hX:EX A x R M y hh) (lB:LN B) (o24:okS l24) (o27:okS l27) (o25:PRo l25 l26)
    (cN:(E 0 ≠ 0 ∨ (E 0=0∧V 0 ≠ 0∧getA (A 9) (nI q)=0))→RS (A 0) (A 1) x 0 t B) (cX:E 0=0→(V 0=0 ∨ ¬ getA (A 9) (nI q)=0)→RS R M y hh t B∧i23=fin hh):M67 1298 [.val (.ref 0),.val (.ref 1),.val (.ref 34),.val (.int (nI p)),l4,l5,.val (.int i6),.val (.int i7),.val (.int i8),.val (.int i9),.val (.int i10),.val (.int i11),.val (.int i12),.val (.int i13),.val (.int i14),.val (.int i15),.val (.int i16),.val (.int i17),.val (.int i18),.val (.int i19),.val (.long w1),.second,.val (.int i22),.val (.int i23),l24,l25,l26,l27,l28] [] (put 1 [((FieldType.array .int,vs.map Value.int):FieldType × List Value)] s A (tl t B)) Q:=by
  subst h6
  subst h7
  have he:=J.1.ex q hq4 (by rw [hst]; decide)
  simp [m67_1298,m67_1299,m67_1300,ks]
  refine rdW hq4 J.1 hx h0 hs1 hs2 hst had hE hX nf (fun z s' A' d K ht nfr rs e5 => ?_) (fun z z1 s' A' d K ht nfr rs => ?_) (fun z z1 m s' A' d K ht e22 fw rs e2 => ?_) (fun z z1 m s' A' d K ht e22 fw rs => ?_)
  · obtain ⟨b0,b1,bt0,bt1⟩:=cN (Or.inl z)
    simp [o24,m67_1303g,ks]
    refine p8a hk d.ln lB hq4 (b0.trans rs.1.symm) (b1.trans rs.2.1.symm) (bt0.trans rs.2.2.1.symm) (bt1.trans rs.2.2.2.symm) (by rw [h17]; exact ht) (hF s' A' d.ln nfr.2.1 nfr.2.2.1 nfr.2.2.2.2) (nfr.2.2.1.trans hH) hH2 o25 o27 o28 (fun l28 o28 => ?_)
    exact fE lp hl (J.d d K) o4 o5 o28 hp hn (by rw [h10]; exact z) rfl (by rw [h10]; exact e5) (by rw [h18]; exact nfr.1) (by rw [hw,nfr.2.2.1,nfr.2.2.2.1])
  · obtain ⟨⟨b0,b1,bt0,bt1⟩,e23⟩:=cX z (Or.inl z1)
    simp [o24,m67_1303g,ks]
    refine p8a hk d.ln lB hq4 (b0.trans rs.1.symm) (b1.trans rs.2.1.symm) (bt0.trans rs.2.2.1.symm) (bt1.trans rs.2.2.2.symm) (by rw [h17]; exact ht) (hF s' A' d.ln nfr.2.1 nfr.2.2.1 nfr.2.2.2.2) (nfr.2.2.1.trans hH) hH2 o25 o27 o28 (fun l28 o28 => ?_)
    exact f0 lp hl (J.d d K) o4 o5 o28 hp hn (by rw [h10]; exact z) (by rw [h9,if_pos z]; exact z1) e23.symm (by rw [h18]; exact nfr.1) (by rw [hw,nfr.2.2.1,nfr.2.2.2.1])
  · obtain ⟨b0,b1,bt0,bt1⟩:=cN (Or.inr ⟨z,z1,m⟩)
    obtain ⟨fv',hF'⟩:=fvX s' A'
    obtain ⟨H',hH',eH⟩:=rgN (x:=s' 20) (n:=2147483648) d.fh (by have:=Int32.toInt_lt (s' 20); omega)
    simp [o24,m67_1303g,ks]
    refine p8a hk d.ln lB hq4 (b0.trans rs.1.symm) (b1.trans rs.2.1.symm) (bt0.trans rs.2.2.1.symm) (bt1.trans rs.2.2.2.symm) (by rw [h17]; exact ht) (hF' s' A' d.ln rfl rfl (fun _ _ => rfl)) eH hH' o25 o27 o28 (fun l28 o28 => ?_)
    exact fF (V:=V) (E:=E) lp hl (J.d d K) o4 o5 o28 hp hn (by rw [h10]; exact z) (by rw [h9,if_pos z]; exact z1) (by rw [h18]; exact e22) (by rw [h8]; exact he) (by rw [h8,h18]; exact fw) h11 h12 h13 h14 h15 h16 (Or.inl ⟨by rw [h19]; exact m,rfl,e2⟩)
  · obtain ⟨⟨b0,b1,bt0,bt1⟩,e23⟩:=cX z (Or.inr m)
    obtain ⟨fv',hF'⟩:=fvX s' A'
    obtain ⟨H',hH',eH⟩:=rgN (x:=s' 20) (n:=2147483648) d.fh (by have:=Int32.toInt_lt (s' 20); omega)
    simp [o24,m67_1303g,ks]
    refine p8a hk d.ln lB hq4 (b0.trans rs.1.symm) (b1.trans rs.2.1.symm) (bt0.trans rs.2.2.1.symm) (bt1.trans rs.2.2.2.symm) (by rw [h17]; exact ht) (hF' s' A' d.ln rfl rfl (fun _ _ => rfl)) eH hH' o25 o27 o28 (fun l28 o28 => ?_)
    exact fF (V:=V) (E:=E) lp hl (J.d d K) o4 o5 o28 hp hn (by rw [h10]; exact z) (by rw [h9,if_pos z]; exact z1) (by rw [h18]; exact e22) (by rw [h8]; exact he) (by rw [h8,h18]; exact fw) h11 h12 h13 h14 h15 h16 (Or.inr ⟨by rw [h19]; exact m,e23.symm⟩)
theorem p7 (hk:∀ (w:Int64) (v:Int32),w * 1000003+v.toInt64=k w v) (lp:LP vs Q n) (hl:vs.length≤260) (J:JV s A t B) (o4:okS l4) (o5:okS l5) (o28:okS l28) (hp:p < 300) (hn:vs.length≤p+n) (hq4:q < 4) (hx:x < 32) (h0:s 0=nI x) (hs1:s 1=0) (hs2:s 2=0) (hst:getA (A 7) (nI q)=2) (had:getA (A 8) (nI q)=nI x) (nf:s 20 < s 17 ∨ s 18=0) (hE:∀ j,j < 4→EV A q j (V j) (E j)) (h6:i6=nI x) (h7:i7=nI q) (h8:i8=getA (A 11) (nI q)) (h9:i9=if E 0=0 then V 0 else 0) (h10:i10=E 0) (h11:i11=HV i8 V E 1) (h12:i12=HV i8 V E 2) (h13:i13=HV i8 V E 3) (h14:i14=HE i8 E 1) (h15:i15=HE i8 E 2) (h16:i16=HE i8 E 3) (h17:i17=getA (A 10) (nI q)) (h18:i18=s 22) (h19:i19=getA (A 9) (nI q)) (hw:w1=fpo k fv H H (k (s 20).toInt64 (s 21))) (hF:∀ s' A',LN A'→s' 19=s 19→s' 20=s 20→(∀ j,25≤j∧j≤30→A' j=A j)→FVok fv s' A') (hH:s 20=nI H) (hH2:H < 2147483648) (e0:B 0=A 0) (e1:B 1=A 1) (t0:t 0=nI x) (t1:t 1=0) (t2:t 2=0) (o23:okS l23) (o24:okS l24) (o27:okS l27) (o25:PRo l25 l26):M67 1258 [.val (.ref 0),.val (.ref 1),.val (.ref 34),.val (.int (nI p)),l4,l5,.val (.int i6),.val (.int i7),.val (.int i8),.val (.int i9),.val (.int i10),.val (.int i11),.val (.int i12),.val (.int i13),.val (.int i14),.val (.int i15),.val (.int i16),.val (.int i17),.val (.int i18),.val (.int i19),.val (.long w1),.second,.val (.int i22),l23,l24,l25,l26,l27,l28] [] (put 1 [((FieldType.array .int,vs.map Value.int):FieldType × List Value)] s A (tl t B)) Q:=by
  obtain ⟨R,M,y,hh,hX⟩:=exX A hx
  have md:=J.1.md q hq4 hst
  have N:(E 0 ≠ 0 ∨ (E 0=0∧V 0 ≠ 0∧getA (A 9) (nI q)=0))→∀ v,M67 1298 [.val (.ref 0),.val (.ref 1),.val (.ref 34),.val (.int (nI p)),l4,l5,.val (.int i6),.val (.int i7),.val (.int i8),.val (.int i9),.val (.int i10),.val (.int i11),.val (.int i12),.val (.int i13),.val (.int i14),.val (.int i15),.val (.int i16),.val (.int i17),.val (.int i18),.val (.int i19),.val (.long w1),.second,.val (.int ((0:Int32))),.val (.int (v)),l24,l25,l26,l27,l28] [] (put 1 [((FieldType.array .int,vs.map Value.int):FieldType × List Value)] s A (tl t B)) Q:=by
    intro g v
    refine p7d hk lp hl J o4 o5 o28 hp hn hq4 hx h0 hs1 hs2 hst had nf hE h6 h7 h8 h9 h10 h11 h12 h13 h14 h15 h16 h17 h18 h19 hw hF hH hH2 hX J.2.1 o24 o27 o25 (fun _ => ⟨e0,e1,t0,t1⟩) (fun a b => ?_)
    rcases g with g | g
    · exact absurd a g
    · rcases b with b | b
      · exact absurd b g.2.1
      · exact absurd g.2.2 b
  have Xe:E 0=0→(V 0=0 ∨ ¬ getA (A 9) (nI q)=0)→M67 1286 [.val (.ref 0),.val (.ref 1),.val (.ref 34),.val (.int (nI p)),l4,l5,.val (.int i6),.val (.int i7),.val (.int i8),.val (.int i9),.val (.int i10),.val (.int i11),.val (.int i12),.val (.int i13),.val (.int i14),.val (.int i15),.val (.int i16),.val (.int i17),.val (.int i18),.val (.int i19),.val (.long w1),.second,.val (.int ((1:Int32))),l23,l24,l25,l26,l27,l28] [] (put 1 [((FieldType.array .int,vs.map Value.int):FieldType × List Value)] s A (tl t B)) Q:=by
    intro a b
    simp [m67_1286,m67_1287,m67_1288,ks]
    rw [vw]
    simp [m67_1286,m67_1287,m67_1288,ks]
    refine rtW (b:=33) hx hX J.2.1 (fun j hj => ?_) t0 t1 t2 J.2.2.2 (fun t' B' lB rs fr => ?_)
    · rcases (by omega:j=0 ∨ j=1 ∨ (2≤j∧j≤4)) with rfl | rfl | g
      · exact e0
      · exact e1
      · exact J.2.2.1 j g
    simp [o23,m67_1291,m67_1294,m67_1296g,ks]
    rw [← vw]
    refine p7d hk lp hl ⟨J.1,lB,fun j hj => (fr j (by omega)).trans (J.2.2.1 j hj),fun p hp => by rw [fr 7 (by decide)]; exact J.2.2.2 p hp⟩ o4 o5 o28 hp hn hq4 hx h0 hs1 hs2 hst had nf hE h6 h7 h8 h9 h10 h11 h12 h13 h14 h15 h16 h17 h18 h19 hw hF hH hH2 hX lB o24 o27 o25 (fun g => ?_) (fun _ _ => ⟨rs,rfl⟩)
    exfalso
    rcases g with g | g
    · exact g a
    · rcases b with b | b
      · exact g.2.1 b
      · exact b g.2.2
  by_cases z:E 0=0
  · have a10:i10=0:=h10.trans z
    by_cases z1:V 0=0
    · have a9:i9=0:=by rw [h9,if_pos z]; exact z1
      have G:=Xe z (Or.inl z1)
      rw [a10,a9] at G
      rw [a10,a9]
      simp [m67_1258,m67_1263,m67_1268,m67_1274,m67_1278,m67_1279i,m67_1281,ks]
      exact G
    · have a9:¬ i9=0:=by rw [h9,if_pos z]; exact z1
      rcases md with m | m
      · have a19:i19=0:=h19.trans m
        have G:=N (Or.inr ⟨z,z1,m⟩)
        rw [a10,a19] at G
        rw [a10,a19]
        simp [a9,o23,m67_1258,m67_1263,m67_1268,m67_1274,m67_1278,m67_1279i,m67_1281,m67_1294,m67_1296g,ks]
        exact G _
      · have a19:i19=1:=h19.trans m
        have G:=Xe z (Or.inr (by rw [m]; decide))
        rw [a10,a19] at G
        rw [a10,a19]
        simp [a9,m67_1258,m67_1263,m67_1268,m67_1274,m67_1278,m67_1279i,m67_1281,ks]
        exact G
  · have a10:¬ i10=0:=by rw [h10]; exact z
    simp [a10,o23,m67_1258,m67_1263,m67_1268,m67_1274,m67_1278,m67_1279i,m67_1281,m67_1294,m67_1296g,ks]
    exact N (Or.inl z) _
set_option maxRecDepth 1000000 in
set_option maxHeartbeats 20000000 in
theorem cyA (h:LN A) (hq:∀ B',LN B'→(∀ i,i < 8→getA (B' 0) (nI i)=getA (A 0) (nI i))→(∀ j,j ≠ 0→B' j=B j)→M67 1220 [.val (.ref 0),.val (.ref 1),.val (.ref 34),.val (.int (nI p)),l4,l5,.val (.int i6),.val (.int i7),.val (.int i8),.val (.int i9),.val (.int i10),.val (.int i11),.val (.int i12),.val (.int i13),.val (.int i14),.val (.int i15),.val (.int i16),.val (.int i17),.val (.int i18),.val (.int i19),.val (.long w1),.second,.val (.int (nI 8)),l23,l24,l25,l26,l27,l28] [] (put 1 [((FieldType.array .int,vs.map Value.int):FieldType × List Value)] s A (tl t B')) Q) :
    ∀ (r i:Nat) (B1:Nat→List Int32),i+r=8→LN B1→(∀ m,m < i→getA (B1 0) (nI m)=getA (A 0) (nI m))→(∀ j,j ≠ 0→B1 j=B j)→M67 1194 [.val (.ref 0),.val (.ref 1),.val (.ref 34),.val (.int (nI p)),l4,l5,.val (.int i6),.val (.int i7),.val (.int i8),.val (.int i9),.val (.int i10),.val (.int i11),.val (.int i12),.val (.int i13),.val (.int i14),.val (.int i15),.val (.int i16),.val (.int i17),.val (.int i18),.val (.int i19),.val (.long w1),.second,.val (.int (nI i)),l23,l24,l25,l26,l27,l28] [] (put 1 [((FieldType.array .int,vs.map Value.int):FieldType × List Value)] s A (tl t B1)) Q:=by
  intro r
  induction r with
  | zero =>
    intro i B1 e l f g
    obtain rfl:i=8:=by omega
    have c1:(nI 8 < 8)=False:=lF (c:=8) (by omega) (by omega)
    rw [m67_1194]
    simp [c1,ks]
    exact hq B1 l f g
  | succ r ih =>
    intro i B1 e l f g
    have c1:(nI i < 8)=True:=lT (c:=8) (by omega) (by decide)
    have ll:=ln0 l
    rw [m67_1194]
    simp [c1,m67_1201,m67_1202,m67_1204,m67_1205,m67_1207,ks]
    refine grW (r:=i) (by omega) h ?_
    simp [m67_1210,ks]
    rw [vw]
    simp [m67_1210,ks]
    refine sgW (b:=33) (r:=i) (by omega) l (fun w => ?_)
    simp [nI_1,m67_1213,m67_1214,ks]
    rw [← vw]
    refine ih (i+1) _ (by omega) (LN_ou l (sl l)) (fun m hm => ?_) (fun j hj => by rw [ou_ne hj]; exact g j hj)
    rw [ou_eq,cf_set (by omega) (by omega) (by omega)]
    by_cases z:m=i
    · subst z
      rw [if_pos rfl]
      unfold rv
      rw [if_pos (by omega)]
    · rw [if_neg z]
      exact f m (by omega)
set_option maxRecDepth 1000000 in
set_option maxHeartbeats 20000000 in
theorem cyB (h:LN A) (hq:∀ B',LN B'→(∀ i,i < 32→getA (B' 1) (nI i)=getA (A 1) (nI i))→(∀ j,j ≠ 1→B' j=B j)→M67 1249 [.val (.ref 0),.val (.ref 1),.val (.ref 34),.val (.int (nI p)),l4,l5,.val (.int i6),.val (.int i7),.val (.int i8),.val (.int i9),.val (.int i10),.val (.int i11),.val (.int i12),.val (.int i13),.val (.int i14),.val (.int i15),.val (.int i16),.val (.int i17),.val (.int i18),.val (.int i19),.val (.long w1),.second,.val (.int (nI 32)),l23,l24,l25,l26,l27,l28] [] (put 1 [((FieldType.array .int,vs.map Value.int):FieldType × List Value)] s A (tl t B')) Q) :
    ∀ (r i:Nat) (B1:Nat→List Int32),i+r=32→LN B1→(∀ m,m < i→getA (B1 1) (nI m)=getA (A 1) (nI m))→(∀ j,j ≠ 1→B1 j=B j)→M67 1223 [.val (.ref 0),.val (.ref 1),.val (.ref 34),.val (.int (nI p)),l4,l5,.val (.int i6),.val (.int i7),.val (.int i8),.val (.int i9),.val (.int i10),.val (.int i11),.val (.int i12),.val (.int i13),.val (.int i14),.val (.int i15),.val (.int i16),.val (.int i17),.val (.int i18),.val (.int i19),.val (.long w1),.second,.val (.int (nI i)),l23,l24,l25,l26,l27,l28] [] (put 1 [((FieldType.array .int,vs.map Value.int):FieldType × List Value)] s A (tl t B1)) Q:=by
  intro r
  induction r with
  | zero =>
    intro i B1 e l f g
    obtain rfl:i=32:=by omega
    have c1:(nI 32 < 32)=False:=lF (c:=32) (by omega) (by omega)
    rw [m67_1223]
    simp [c1,ks]
    exact hq B1 l f g
  | succ r ih =>
    intro i B1 e l f g
    have c1:(nI i < 32)=True:=lT (c:=32) (by omega) (by decide)
    have ll:=ln1 l
    rw [m67_1223]
    simp [c1,m67_1230,m67_1231,m67_1233,m67_1234,m67_1236,ks]
    refine gmW (r:=i) (by omega) h ?_
    simp [m67_1239,ks]
    rw [vw]
    simp [m67_1239,ks]
    refine sxW (b:=33) (r:=i) (by omega) l (fun w => ?_)
    simp [nI_1,m67_1242,m67_1243,ks]
    rw [← vw]
    refine ih (i+1) _ (by omega) (LN_ou l (sl l)) (fun m hm => ?_) (fun j hj => by rw [ou_ne hj]; exact g j hj)
    rw [ou_eq,cf_set (by omega) (by omega) (by omega)]
    by_cases z:m=i
    · subst z
      rw [if_pos rfl]
    · rw [if_neg z]
      exact f m (by omega)
set_option maxRecDepth 1000000 in
set_option maxHeartbeats 20000000 in
theorem p6 (hk:∀ (w:Int64) (v:Int32),w * 1000003+v.toInt64=k w v) (lp:LP vs Q n) (hl:vs.length≤260) (J:JV s A t B) (o4:okS l4) (o5:okS l5) (o28:okS l28) (hp:p < 300) (hn:vs.length≤p+n) (hq4:q < 4) (hx:x < 32) (h0:s 0=nI x) (hs1:s 1=0) (hs2:s 2=0) (hst:getA (A 7) (nI q)=2) (had:getA (A 8) (nI q)=nI x) (nf:s 20 < s 17 ∨ s 18=0) (hE:∀ j,j < 4→EV A q j (V j) (E j)) (h6:i6=nI x) (h7:i7=nI q) (h8:i8=getA (A 11) (nI q)) (h9:i9=if E 0=0 then V 0 else 0) (h10:i10=E 0) (h11:i11=HV i8 V E 1) (h12:i12=HV i8 V E 2) (h13:i13=HV i8 V E 3) (h14:i14=HE i8 E 1) (h15:i15=HE i8 E 2) (h16:i16=HE i8 E 3) (h17:i17=getA (A 10) (nI q)) (h18:i18=s 22) (h19:i19=getA (A 9) (nI q)) (hw:w1=fpo k fv H H (k (s 20).toInt64 (s 21))) (hF:∀ s' A',LN A'→s' 19=s 19→s' 20=s 20→(∀ j,25≤j∧j≤30→A' j=A j)→FVok fv s' A') (hH:s 20=nI H) (hH2:H < 2147483648) (o23:okS l23) (o24:okS l24) (o27:okS l27) (o25:PRo l25 l26):M67 1191 [.val (.ref 0),.val (.ref 1),.val (.ref 34),.val (.int (nI p)),l4,l5,.val (.int i6),.val (.int i7),.val (.int i8),.val (.int i9),.val (.int i10),.val (.int i11),.val (.int i12),.val (.int i13),.val (.int i14),.val (.int i15),.val (.int i16),.val (.int i17),.val (.int i18),.val (.int i19),.val (.long w1),.second,.val (.int i22),l23,l24,l25,l26,l27,l28] [] (put 1 [((FieldType.array .int,vs.map Value.int):FieldType × List Value)] s A (tl t B)) Q:=by
  simp [m67_1191,ks]
  refine cyA J.1.ln (fun B1 l1 f1 g1 => ?_) 8 0 B (by omega) J.2.1 (fun m hm => absurd hm (by omega)) (fun _ _ => rfl)
  simp [m67_1220,ks]
  refine cyB J.1.ln (fun B2 l2 f2 g2 => ?_) 32 0 B1 (by omega) l1 (fun m hm => absurd hm (by omega)) (fun _ _ => rfl)
  subst h6
  simp [m67_1249,m67_1250,m67_1254,ks]
  rw [vw]
  simp [m67_1249,m67_1250,m67_1254,ks]
  refine spW (b:=33) hx (fun w => ?_)
  simp [m67_1257,ks]
  rw [← vw]
  have E0:B2 0=A 0:=by
    rw [g2 0 (by decide)]
    exact lext (ln0 l1) (ln0 J.1.ln) (by decide) f1
  have E1:B2 1=A 1:=lext (ln1 l2) (ln1 J.1.ln) (by decide) f2
  have G:∀ j,2≤j→B2 j=B j:=fun j hj => (g2 j (by omega)).trans (g1 j (by omega))
  exact p7 hk lp hl ⟨J.1,l2,fun j hj => (G j hj.1).trans (J.2.2.1 j hj),fun p hp => by rw [G 7 (by decide)]; exact J.2.2.2 p hp⟩ o4 o5 o28 hp hn hq4 hx h0 hs1 hs2 hst had nf hE rfl h7 h8 h9 h10 h11 h12 h13 h14 h15 h16 h17 h18 h19 hw hF hH hH2 E0 E1 (by rw [os_ne (by decide),os_ne (by decide),os_eq]) (by rw [os_ne (by decide),os_eq]) os_eq o23 o24 o27 o25
set_option maxRecDepth 1000000 in
set_option maxHeartbeats 20000000 in
theorem p5 (lp:LP vs Q n) (hl:vs.length≤260) (J:JV s A t B) (o4:okS l4) (o5:okS l5) (o28:okS l28) (hp:p < 300) (hn:vs.length≤p+n) (hq4:q < 4) (hx:x < 32) (h0:s 0=nI x) (hs1:s 1=0) (hs2:s 2=0) (hst:getA (A 7) (nI q)=2) (had:getA (A 8) (nI q)=nI x) (nf:s 20 < s 17 ∨ s 18=0) (hE:∀ j,j < 4→EV A q j (V j) (E j)) (h6:i6=nI x) (h7:i7=nI q) (h8:i8=getA (A 11) (nI q)) (h9:i9=if E 0=0 then V 0 else 0) (h10:i10=E 0) (h11:i11=HV i8 V E 1) (h12:i12=HV i8 V E 2) (h13:i13=HV i8 V E 3) (h14:i14=HE i8 E 1) (h15:i15=HE i8 E 2) (h16:i16=HE i8 E 3) (o17:okS l17) (o18:okS l18) (o19:okS l19) (o22:okS l22) (o23:okS l23) (o24:okS l24) (o27:okS l27) (o20:PRo l20 l21) (o25:PRo l25 l26):M67 1090 [.val (.ref 0),.val (.ref 1),.val (.ref 34),.val (.int (nI p)),l4,l5,.val (.int i6),.val (.int i7),.val (.int i8),.val (.int i9),.val (.int i10),.val (.int i11),.val (.int i12),.val (.int i13),.val (.int i14),.val (.int i15),.val (.int i16),l17,l18,l19,l20,l21,l22,l23,l24,l25,l26,l27,l28] [] (put 1 [((FieldType.array .int,vs.map Value.int):FieldType × List Value)] s A (tl t B)) Q:=by
  obtain ⟨fv,hF⟩:=fvX s A
  obtain ⟨H,hH2,hH⟩:=rgN (x:=s 20) (n:=2147483648) J.1.fh (by have:=Int32.toInt_lt (s 20); omega)
  obtain ⟨k,hk⟩:∃ k:Int64→Int32→Int64,∀ (w:Int64) (v:Int32),w * 1000003+v.toInt64=k w v:=⟨fun w v => w * 1000003+v.toInt64,fun _ _ => rfl⟩
  subst h7
  simp [m67_1090,m67_1091,m67_1094,ks]
  refine si3 hq4 J.1.ln ?_
  simp [o17,o18,m67_1097g,m67_1099,m67_1100,m67_1102,m67_1105g,m67_1107,m67_1108,m67_1111,ks,k38_0,k38_1,k39_0,k39_1]
  refine si2 hq4 J.1.ln hst ?_
  simp [o19,hk,m67_1114g,m67_1116,m67_1117,m67_1119,m67_1122,m67_1123,m67_1126,m67_1127,m67_1128,m67_1130,m67_1133,m67_1134,ks,k38_0,k38_1,k39_0,k39_1]
  rw [u1135 o20]
  simp [o22,m67_1137,m67_1138g,ks]
  refine fao hk (hF s A J.1.ln rfl rfl (fun _ _ => rfl)) hH hH2 H 0 _ _ (by omega) o23 (fun l23 o23 => ?_)
  exact p6 hk lp hl J o4 o5 o28 hp hn hq4 hx h0 hs1 hs2 hst had nf hE h6 rfl h8 h9 h10 h11 h12 h13 h14 h15 h16 rfl rfl rfl rfl hF hH hH2 o23 o24 o27 o25
theorem EH_r {s:Nat→Int32}{A:Nat→List Int32} (h:LN A):EH s A s A:=⟨h,fun _ _ _ _ => rfl,fun _ _ => rfl⟩
theorem EH_t {s s' s'':Nat→Int32}{A A' A'':Nat→List Int32} (h:EH s A s' A') (g:EH s' A' s'' A''):EH s A s'' A'':=⟨g.1,fun i a c d => (g.2.1 i a c d).trans (h.2.1 i a c d),fun j a => (g.2.2 j a).trans (h.2.2 j a)⟩
theorem DV.eh {s s':Nat→Int32}{A A':Nat→List Int32} (h:DV s A) (g:EH s A s' A'):DV s' A':=h.fr g.1 (fun j hj => g.2.2 j (by omega)) (fun i hi => g.2.1 i (by omega) (by omega) (by omega))
theorem SM.eh {s s':Nat→Int32}{A A':Nat→List Int32} (g:EH s A s' A'):SM A A':=⟨g.2.2 0 (by decide),g.2.2 1 (by decide),g.2.2 13 (by decide),g.2.2 14 (by decide),g.2.2 15 (by decide),g.2.2 16 (by decide)⟩
theorem KP.eh {s s':Nat→Int32}{A A':Nat→List Int32} (g:EH s A s' A'):KP A A':=fun j hj => g.2.2 j (by omega)
set_option maxRecDepth 1000000 in
set_option maxHeartbeats 20000000 in
theorem p4h (hq4:q < 4) (hE:∀ j,j < 4→EV A q j (V j) (E j)) (hst:getA (A 7) (nI q)=2) {j:Nat} (hj:j < 4) (hk:nI j < getA (A 11) (nI q)) {s1:Nat→Int32}{A1:Nat→List Int32} (e:EH s A s1 A1)
    (hq:∀ s2 A2,EH s A s2 A2→s2 6=E j→Q (some (.int (if E j=0 then V j else 0))) (put 1 [((FieldType.array .int,vs.map Value.int):FieldType × List Value)] s2 A2 (tl t B))):M40 0 [.val (.ref 1),.val (.int (nI q)),.val (.int (nI j)),.unset] [] (put 1 [((FieldType.array .int,vs.map Value.int):FieldType × List Value)] s1 A1 (tl t B)) Q:=by
  have a7:=e.2.2 7 (by decide)
  have a11:=e.2.2 11 (by decide)
  exact heW (b:=0) hq4 hj (hE j hj) e.1 (SM.eh e) (by rw [a7,hst]; decide) (by rw [a11]; exact hk) (fun s2 A2 g g6 => hq s2 A2 (EH_t e g) g6)
theorem p4z (lp:LP vs Q n) (hl:vs.length≤260) (J:JV s A t B) (o4:okS l4) (o5:okS l5) (o28:okS l28) (hp:p < 300) (hn:vs.length≤p+n) (hq4:q < 4) (hx:x < 32) (h0:s 0=nI x) (hs1:s 1=0) (hs2:s 2=0) (hst:getA (A 7) (nI q)=2) (had:getA (A 8) (nI q)=nI x) (nf:s 20 < s 17 ∨ s 18=0) (hE:∀ j,j < 4→EV A q j (V j) (E j)) (h6:i6=nI x) (h7:i7=nI q) (h8:i8=getA (A 11) (nI q)) (h9:i9=if E 0=0 then V 0 else 0) (h10:i10=E 0) (h11:i11=HV i8 V E 1) (h12:i12=HV i8 V E 2) (h13:i13=HV i8 V E 3) (h14:i14=HE i8 E 1) (h15:i15=HE i8 E 2) (h16:i16=HE i8 E 3) (o17:okS l17) (o18:okS l18) (o19:okS l19) (o22:okS l22) (o23:okS l23) (o24:okS l24) (o27:okS l27) (o20:PRo l20 l21) (o25:PRo l25 l26) {s1:Nat→Int32}{A1:Nat→List Int32} (e:EH s A s1 A1):M67 1090 [.val (.ref 0),.val (.ref 1),.val (.ref 34),.val (.int (nI p)),l4,l5,.val (.int i6),.val (.int i7),.val (.int i8),.val (.int i9),.val (.int i10),.val (.int i11),.val (.int i12),.val (.int i13),.val (.int i14),.val (.int i15),.val (.int i16),l17,l18,l19,l20,l21,l22,l23,l24,l25,l26,l27,l28] [] (put 1 [((FieldType.array .int,vs.map Value.int):FieldType × List Value)] s1 A1 (tl t B)) Q:=by
  have f:∀ i,i ≠ 6→i ≠ 15→i ≠ 16→s1 i=s i:=e.2.1
  have g:∀ j,j ≠ 24→A1 j=A j:=e.2.2
  exact p5 lp hl (J.d (J.1.eh e) (KP.eh e)) o4 o5 o28 hp hn hq4 hx ((f 0 (by decide) (by decide) (by decide)).trans h0) ((f 1 (by decide) (by decide) (by decide)).trans hs1) ((f 2 (by decide) (by decide) (by decide)).trans hs2)
    (by rw [g 7 (by decide)]; exact hst) (by rw [g 8 (by decide)]; exact had) (by rw [f 20 (by decide) (by decide) (by decide),f 17 (by decide) (by decide) (by decide),f 18 (by decide) (by decide) (by decide)]; exact nf) (fun j hj => (hE j hj).sm (SM.eh e)) h6 h7 (by rw [g 11 (by decide)]; exact h8) h9 h10 h11 h12 h13 h14 h15 h16 o17 o18 o19 o22 o23 o24 o27 o20 o25
set_option maxRecDepth 1000000 in
set_option maxHeartbeats 20000000 in
theorem p4c (lp:LP vs Q n) (hl:vs.length≤260) (J:JV s A t B) (o4:okS l4) (o5:okS l5) (o28:okS l28) (hp:p < 300) (hn:vs.length≤p+n) (hq4:q < 4) (hx:x < 32) (h0:s 0=nI x) (hs1:s 1=0) (hs2:s 2=0) (hst:getA (A 7) (nI q)=2) (had:getA (A 8) (nI q)=nI x) (nf:s 20 < s 17 ∨ s 18=0) (hE:∀ j,j < 4→EV A q j (V j) (E j)) (h6:i6=nI x) (h7:i7=nI q) (h8:i8=getA (A 11) (nI q)) (h9:i9=if E 0=0 then V 0 else 0) (h10:i10=E 0) (h11:i11=HV i8 V E 1) (h12:i12=HV i8 V E 2) (h14:i14=HE i8 E 1) (h15:i15=HE i8 E 2) (o17:okS l17) (o18:okS l18) (o19:okS l19) (o22:okS l22) (o23:okS l23) (o24:okS l24) (o27:okS l27) (o20:PRo l20 l21) (o25:PRo l25 l26) {s1:Nat→Int32}{A1:Nat→List Int32} (e:EH s A s1 A1):M67 1068 [.val (.ref 0),.val (.ref 1),.val (.ref 34),.val (.int (nI p)),l4,l5,.val (.int i6),.val (.int i7),.val (.int i8),.val (.int i9),.val (.int i10),.val (.int i11),.val (.int i12),.val (.int ((0:Int32))),.val (.int i14),.val (.int i15),.val (.int ((0:Int32))),l17,l18,l19,l20,l21,l22,l23,l24,l25,l26,l27,l28] [] (put 1 [((FieldType.array .int,vs.map Value.int):FieldType × List Value)] s1 A1 (tl t B)) Q:=by
  by_cases g:3 < i8
  · have g':nI 3 < i8:=g
    subst h7
    simp [g,m67_1068,m67_1074,m67_1075,m67_1078,ks]
    refine p4h (j:=3) hq4 hE hst (by decide) (by rw [← h8]; exact g') e (fun s2 A2 e2 e6 => ?_)
    simp [e6,m67_1081i,m67_1083,m67_1084,m67_1085,m67_1088i,ks,k38_0,k38_1,k39_0,k39_1]
    exact p4z lp hl J o4 o5 o28 hp hn hq4 hx h0 hs1 hs2 hst had nf hE h6 rfl h8 h9 h10 h11 h12 (by unfold HV; rw [if_pos g']) h14 h15 (by unfold HE; rw [if_pos g']) o17 o18 o19 o22 o23 o24 o27 o20 o25 e2
  · have g':¬ nI 3 < i8:=g
    simp [g,m67_1068,ks]
    exact p4z lp hl J o4 o5 o28 hp hn hq4 hx h0 hs1 hs2 hst had nf hE h6 h7 h8 h9 h10 h11 h12 (by unfold HV; rw [if_neg g']) h14 h15 (by unfold HE; rw [if_neg g']) o17 o18 o19 o22 o23 o24 o27 o20 o25 e
set_option maxRecDepth 1000000 in
set_option maxHeartbeats 20000000 in
theorem p4b (lp:LP vs Q n) (hl:vs.length≤260) (J:JV s A t B) (o4:okS l4) (o5:okS l5) (o28:okS l28) (hp:p < 300) (hn:vs.length≤p+n) (hq4:q < 4) (hx:x < 32) (h0:s 0=nI x) (hs1:s 1=0) (hs2:s 2=0) (hst:getA (A 7) (nI q)=2) (had:getA (A 8) (nI q)=nI x) (nf:s 20 < s 17 ∨ s 18=0) (hE:∀ j,j < 4→EV A q j (V j) (E j)) (h6:i6=nI x) (h7:i7=nI q) (h8:i8=getA (A 11) (nI q)) (h9:i9=if E 0=0 then V 0 else 0) (h10:i10=E 0) (h11:i11=HV i8 V E 1) (h14:i14=HE i8 E 1) (o17:okS l17) (o18:okS l18) (o19:okS l19) (o22:okS l22) (o23:okS l23) (o24:okS l24) (o27:okS l27) (o20:PRo l20 l21) (o25:PRo l25 l26) {s1:Nat→Int32}{A1:Nat→List Int32} (e:EH s A s1 A1):M67 1046 [.val (.ref 0),.val (.ref 1),.val (.ref 34),.val (.int (nI p)),l4,l5,.val (.int i6),.val (.int i7),.val (.int i8),.val (.int i9),.val (.int i10),.val (.int i11),.val (.int ((0:Int32))),.val (.int ((0:Int32))),.val (.int i14),.val (.int ((0:Int32))),.val (.int ((0:Int32))),l17,l18,l19,l20,l21,l22,l23,l24,l25,l26,l27,l28] [] (put 1 [((FieldType.array .int,vs.map Value.int):FieldType × List Value)] s1 A1 (tl t B)) Q:=by
  by_cases g:2 < i8
  · have g':nI 2 < i8:=g
    subst h7
    simp [g,m67_1046,m67_1052,m67_1053,m67_1056,ks]
    refine p4h (j:=2) hq4 hE hst (by decide) (by rw [← h8]; exact g') e (fun s2 A2 e2 e6 => ?_)
    simp [e6,m67_1059i,m67_1061,m67_1062,m67_1063,m67_1066i,ks,k38_0,k38_1,k39_0,k39_1]
    exact p4c lp hl J o4 o5 o28 hp hn hq4 hx h0 hs1 hs2 hst had nf hE h6 rfl h8 h9 h10 h11 (by unfold HV; rw [if_pos g']) h14 (by unfold HE; rw [if_pos g']) o17 o18 o19 o22 o23 o24 o27 o20 o25 e2
  · have g':¬ nI 2 < i8:=g
    simp [g,m67_1046,ks]
    exact p4c lp hl J o4 o5 o28 hp hn hq4 hx h0 hs1 hs2 hst had nf hE h6 h7 h8 h9 h10 h11 (by unfold HV; rw [if_neg g']) h14 (by unfold HE; rw [if_neg g']) o17 o18 o19 o22 o23 o24 o27 o20 o25 e
set_option maxRecDepth 1000000 in
set_option maxHeartbeats 20000000 in
theorem p4a (lp:LP vs Q n) (hl:vs.length≤260) (J:JV s A t B) (o4:okS l4) (o5:okS l5) (o28:okS l28) (hp:p < 300) (hn:vs.length≤p+n) (hq4:q < 4) (hx:x < 32) (h0:s 0=nI x) (hs1:s 1=0) (hs2:s 2=0) (hst:getA (A 7) (nI q)=2) (had:getA (A 8) (nI q)=nI x) (nf:s 20 < s 17 ∨ s 18=0) (hE:∀ j,j < 4→EV A q j (V j) (E j)) (h6:i6=nI x) (h7:i7=nI q) (h8:i8=getA (A 11) (nI q)) (h9:i9=if E 0=0 then V 0 else 0) (h10:i10=E 0) (o17:okS l17) (o18:okS l18) (o19:okS l19) (o22:okS l22) (o23:okS l23) (o24:okS l24) (o27:okS l27) (o20:PRo l20 l21) (o25:PRo l25 l26) {s1:Nat→Int32}{A1:Nat→List Int32} (e:EH s A s1 A1):M67 1024 [.val (.ref 0),.val (.ref 1),.val (.ref 34),.val (.int (nI p)),l4,l5,.val (.int i6),.val (.int i7),.val (.int i8),.val (.int i9),.val (.int i10),.val (.int ((0:Int32))),.val (.int ((0:Int32))),.val (.int ((0:Int32))),.val (.int ((0:Int32))),.val (.int ((0:Int32))),.val (.int ((0:Int32))),l17,l18,l19,l20,l21,l22,l23,l24,l25,l26,l27,l28] [] (put 1 [((FieldType.array .int,vs.map Value.int):FieldType × List Value)] s1 A1 (tl t B)) Q:=by
  by_cases g:1 < i8
  · have g':nI 1 < i8:=g
    subst h7
    simp [g,m67_1024,m67_1030,m67_1031,m67_1034,ks]
    refine p4h (j:=1) hq4 hE hst (by decide) (by rw [← h8]; exact g') e (fun s2 A2 e2 e6 => ?_)
    simp [e6,m67_1037i,m67_1039,m67_1040,m67_1041,m67_1044i,ks,k38_0,k38_1,k39_0,k39_1]
    exact p4b lp hl J o4 o5 o28 hp hn hq4 hx h0 hs1 hs2 hst had nf hE h6 rfl h8 h9 h10 (by unfold HV; rw [if_pos g']) (by unfold HE; rw [if_pos g']) o17 o18 o19 o22 o23 o24 o27 o20 o25 e2
  · have g':¬ nI 1 < i8:=g
    simp [g,m67_1024,ks]
    exact p4b lp hl J o4 o5 o28 hp hn hq4 hx h0 hs1 hs2 hst had nf hE h6 h7 h8 h9 h10 (by unfold HV; rw [if_neg g']) (by unfold HE; rw [if_neg g']) o17 o18 o19 o22 o23 o24 o27 o20 o25 e
set_option maxRecDepth 1000000 in
set_option maxHeartbeats 20000000 in
theorem p4 (lp:LP vs Q n) (hl:vs.length≤260) (J:JV s A t B) (o4:okS l4) (o5:okS l5) (o28:okS l28) (hp:p < 300) (hn:vs.length≤p+n) (hq4:q < 4) (hx:x < 32) (h0:s 0=nI x) (hs1:s 1=0) (hs2:s 2=0) (hst:getA (A 7) (nI q)=2) (had:getA (A 8) (nI q)=nI x) (nf:s 20 < s 17 ∨ s 18=0) (o9:okS l9) (o10:okS l10) (o11:okS l11) (o12:okS l12) (o13:okS l13) (o14:okS l14) (o15:okS l15) (o16:okS l16) (o17:okS l17) (o18:okS l18) (o19:okS l19) (o22:okS l22) (o23:okS l23) (o24:okS l24) (o27:okS l27) (o20:PRo l20 l21) (o25:PRo l25 l26):M67 981 [.val (.ref 0),.val (.ref 1),.val (.ref 34),.val (.int (nI p)),l4,l5,.val (.int (nI x)),.val (.int (nI q)),.val (.int (i8)),l9,l10,l11,l12,l13,l14,l15,l16,l17,l18,l19,l20,l21,l22,l23,l24,l25,l26,l27,l28] [] (put 1 [((FieldType.array .int,vs.map Value.int):FieldType × List Value)] s A (tl t B)) Q:=by
  obtain ⟨V,E,hE⟩:=evA A hq4
  have hst0:¬ getA (A 7) (nI q)=0:=by rw [hst]; decide
  have hk1:=J.1.ex q hq4 hst0
  have k0:nI 0 < getA (A 11) (nI q):=by rw [lt_i]; show (0:Int32).toInt < _; rw [i_0]; omega
  simp [m67_981,m67_982,m67_985,ks]
  refine si4 hq4 J.1.ln hst0 ?_
  simp [m67_988i,m67_990,m67_991,m67_994,ks]
  refine p4h (j:=0) hq4 hE hst (by decide) k0 (EH_r J.1.ln) (fun s2 A2 e2 e6 => ?_)
  simp [e6,o9,o10,o11,o12,o13,o14,o15,o16,m67_997g,m67_999,m67_1000,m67_1001,m67_1004g,m67_1006,m67_1007g,m67_1009,m67_1010g,m67_1012,m67_1013g,m67_1015,m67_1016g,m67_1018,m67_1019g,m67_1021,m67_1022g,ks,k38_0,k38_1,k39_0,k39_1]
  exact p4a lp hl J o4 o5 o28 hp hn hq4 hx h0 hs1 hs2 hst had nf hE rfl rfl rfl rfl rfl o17 o18 o19 o22 o23 o24 o27 o20 o25 e2
set_option maxRecDepth 1000000 in
set_option maxHeartbeats 20000000 in
theorem p3r {i7:Int32} (lp:LP vs Q n) (hl:vs.length≤260) (J:JV s A t B) (o4:okS l4) (o5:okS l5) (o28:okS l28) (hp:p < 300) (hn:vs.length≤p+n) (o9:okS l9) (o10:okS l10) (o11:okS l11) (o12:okS l12) (o13:okS l13) (o14:okS l14) (o15:okS l15) (o16:okS l16) (o17:okS l17) (o18:okS l18) (o19:okS l19) (o22:okS l22) (o23:okS l23) (o24:okS l24) (o27:okS l27) (o20:PRo l20 l21) (o25:PRo l25 l26):M67 972 [.val (.ref 0),.val (.ref 1),.val (.ref 34),.val (.int (nI p)),l4,l5,.val (.int (i6)),.val (.int (i7)),.val (.int (i8)),l9,l10,l11,l12,l13,l14,l15,l16,l17,l18,l19,l20,l21,l22,l23,l24,l25,l26,l27,l28] [] (put 1 [((FieldType.array .int,vs.map Value.int):FieldType × List Value)] s A (tl t B)) Q:=by
  simp [m67_972,m67_973,m67_974,ks]
  refine rgW J.1 (fun v s' A' d K => ?_)
  simp [m67_977,m67_978,ks]
  refine lp _ _ _ _ _ _ _ _ _ _ _ _ _ _ _ _ _ _ _ _ _ _ _ _ _ _ _ _ _ _ (J.d d K) ?_ (by omega) (by omega)
  refine ⟨?_,?_,?_,?_,?_,?_,?_,?_,?_,?_,?_,?_,?_,?_,?_,?_,?_,?_,?_,?_,?_,?_,?_⟩ <;> first | assumption | exact okS_i _ | exact Or.inr ⟨_,rfl,rfl⟩
theorem p3 (lp:LP vs Q n) (hl:vs.length≤260) (J:JV s A t B) (o4:okS l4) (o5:okS l5) (o28:okS l28) (hp:p < 300) (hn:vs.length≤p+n) (o9:okS l9) (o10:okS l10) (o11:okS l11) (o12:okS l12) (o13:okS l13) (o14:okS l14) (o15:okS l15) (o16:okS l16) (o17:okS l17) (o18:okS l18) (o19:okS l19) (o22:okS l22) (o23:okS l23) (o24:okS l24) (o27:okS l27) (o20:PRo l20 l21) (o25:PRo l25 l26) (hx:x < 32) (h0:s 0=nI x) (hi:i7 < 0 ∨ ∃ q,q < 4∧i7=nI q∧getA (A 7) (nI q)=2∧getA (A 8) (nI q)=nI x):M67 927 [.val (.ref 0),.val (.ref 1),.val (.ref 34),.val (.int (nI p)),l4,l5,.val (.int (nI x)),.val (.int (i7)),.val (.int (i8)),l9,l10,l11,l12,l13,l14,l15,l16,l17,l18,l19,l20,l21,l22,l23,l24,l25,l26,l27,l28] [] (put 1 [((FieldType.array .int,vs.map Value.int):FieldType × List Value)] s A (tl t B)) Q:=by
  rcases hi with g | ⟨q,hq4,rfl,hst,had⟩
  · simp [g,m67_927,ks]
    exact p3r lp hl J o4 o5 o28 hp hn o9 o10 o11 o12 o13 o14 o15 o16 o17 o18 o19 o22 o23 o24 o27 o20 o25
  have gq:(nI q < 0)=False:=nnF (by omega)
  by_cases z1:s 1=0
  · by_cases z2:s 2=0
    · by_cases z3:s 18=0
      · simp [gq,z1,z2,z3,m67_927,m67_932,m67_933,m67_934,m67_937,m67_940,m67_941,m67_942,m67_945,m67_948,m67_949,m67_951,m67_954,ks,k38_0,k38_1,k39_0,k39_1]
        exact p4 lp hl J o4 o5 o28 hp hn hq4 hx h0 z1 z2 hst had (Or.inr z3) o9 o10 o11 o12 o13 o14 o15 o16 o17 o18 o19 o22 o23 o24 o27 o20 o25
      · by_cases z4:s 20 < s 17
        · simp [gq,z1,z2,z3,z4,m67_927,m67_932,m67_933,m67_934,k67_22,ks,k38_0,k38_1,k39_0,k39_1]
          exact p4 lp hl J o4 o5 o28 hp hn hq4 hx h0 z1 z2 hst had (Or.inl z4) o9 o10 o11 o12 o13 o14 o15 o16 o17 o18 o19 o22 o23 o24 o27 o20 o25
        · simp [gq,z1,z2,z3,z4,m67_927,m67_932,m67_933,m67_934,k67_22,ks,k38_0,k38_1,k39_0,k39_1]
          exact p3r lp hl J o4 o5 o28 hp hn o9 o10 o11 o12 o13 o14 o15 o16 o17 o18 o19 o22 o23 o24 o27 o20 o25
    · simp [gq,z1,z2,m67_927,m67_932,m67_933,m67_934,m67_937,m67_940,m67_941,m67_942,m67_945,ks,k38_0,k38_1,k39_0,k39_1]
      exact p3r lp hl J o4 o5 o28 hp hn o9 o10 o11 o12 o13 o14 o15 o16 o17 o18 o19 o22 o23 o24 o27 o20 o25
  · simp [gq,z1,m67_927,m67_932,m67_933,m67_934,m67_937,ks,k38_0,k38_1,k39_0,k39_1]
    exact p3r lp hl J o4 o5 o28 hp hn o9 o10 o11 o12 o13 o14 o15 o16 o17 o18 o19 o22 o23 o24 o27 o20 o25
set_option maxRecDepth 1000000 in
set_option maxHeartbeats 20000000 in
theorem p2l (lp:LP vs Q n) (hl:vs.length≤260) (J:JV s A t B) (o4:okS l4) (o5:okS l5) (o28:okS l28) (hp:p < 300) (hn:vs.length≤p+n) (o9:okS l9) (o10:okS l10) (o11:okS l11) (o12:okS l12) (o13:okS l13) (o14:okS l14) (o15:okS l15) (o16:okS l16) (o17:okS l17) (o18:okS l18) (o19:okS l19) (o22:okS l22) (o23:okS l23) (o24:okS l24) (o27:okS l27) (o20:PRo l20 l21) (o25:PRo l25 l26) (hx:x < 32) (h0:s 0=nI x):∀ (r i:Nat) (i7:Int32),i+r=4→(i7 < 0 ∨ ∃ q,q < 4∧i7=nI q∧getA (A 7) (nI q)=2∧getA (A 8) (nI q)=nI x)→M67 888 [.val (.ref 0),.val (.ref 1),.val (.ref 34),.val (.int (nI p)),l4,l5,.val (.int (nI x)),.val (.int (i7)),.val (.int (nI i)),l9,l10,l11,l12,l13,l14,l15,l16,l17,l18,l19,l20,l21,l22,l23,l24,l25,l26,l27,l28] [] (put 1 [((FieldType.array .int,vs.map Value.int):FieldType × List Value)] s A (tl t B)) Q:=by
  intro r
  induction r with
  | zero =>
    intro i i7 e hi
    have c1:(nI i < 4)=False:=lF (c:=4) (by omega) (by omega)
    rw [m67_888]
    simp [c1,ks]
    exact p3 lp hl J o4 o5 o28 hp hn o9 o10 o11 o12 o13 o14 o15 o16 o17 o18 o19 o22 o23 o24 o27 o20 o25 hx h0 hi
  | succ r ih =>
    intro i i7 e hi
    have c1:(nI i < 4)=True:=lT (c:=4) (by omega) (by decide)
    rw [m67_888]
    simp [c1,m67_894,m67_895,m67_898,ks]
    refine si0 (q:=i) (by omega) J.1.ln ?_
    by_cases g:getA (A 7) (nI i)=2
    · simp [g,m67_901,m67_902,m67_905,m67_906,m67_909,ks]
      refine si1 (q:=i) (by omega) J.1.ln g ?_
      by_cases g2:getA (A 8) (nI i)=nI x
      · simp [g2,nI_1,m67_912,m67_914,m67_917,m67_921,ks]
        exact ih (i+1) _ (by omega) (Or.inr ⟨i,by omega,rfl,g,g2⟩)
      · simp [g2,nI_1,m67_912,m67_914,m67_917,m67_921,ks]
        exact ih (i+1) _ (by omega) hi
    · simp [g,nI_1,m67_901,m67_902,m67_921,ks]
      exact ih (i+1) _ (by omega) hi
theorem p2 (lp:LP vs Q n) (hl:vs.length≤260) (J:JV s A t B) (o4:okS l4) (o5:okS l5) (o28:okS l28) (hp:p < 300) (hn:vs.length≤p+n) (o6:okS l6) (o7:okS l7) (o8:okS l8) (o9:okS l9) (o10:okS l10) (o11:okS l11) (o12:okS l12) (o13:okS l13) (o14:okS l14) (o15:okS l15) (o16:okS l16) (o17:okS l17) (o18:okS l18) (o19:okS l19) (o22:okS l22) (o23:okS l23) (o24:okS l24) (o27:okS l27) (o20:PRo l20 l21) (o25:PRo l25 l26):M67 874 [.val (.ref 0),.val (.ref 1),.val (.ref 34),.val (.int (nI p)),l4,l5,l6,l7,l8,l9,l10,l11,l12,l13,l14,l15,l16,l17,l18,l19,l20,l21,l22,l23,l24,l25,l26,l27,l28] [] (put 1 [((FieldType.array .int,vs.map Value.int):FieldType × List Value)] s A (tl t B)) Q:=by
  obtain ⟨x,hx,h0⟩:=J.1.pc
  have e8:rv s A 8=nI x:=by unfold rv; rw [if_neg (by decide)]; exact h0
  simp [m67_874,m67_875,m67_877,ks]
  refine grW (r:=8) (by decide) J.1.ln ?_
  simp [e8,o6,o7,o8,m67_880g,m67_882,k67_20,ks]
  exact p2l lp hl J o4 o5 o28 hp hn o9 o10 o11 o12 o13 o14 o15 o16 o17 o18 o19 o22 o23 o24 o27 o20 o25 hx h0 4 0 _ (by omega) (Or.inl (by decide))
theorem p1 {c:Int32} (lp:LP vs Q n) (hl:vs.length≤260) (J:JV s A t B) (o4:okS l4) (o5:okS l5) (o28:okS l28) (hp:p < 300) (hn:vs.length≤p+n) (o6:okS l6) (o7:okS l7) (o8:okS l8) (o9:okS l9) (o10:okS l10) (o11:okS l11) (o12:okS l12) (o13:okS l13) (o14:okS l14) (o15:okS l15) (o16:okS l16) (o17:okS l17) (o18:okS l18) (o19:okS l19) (o22:okS l22) (o23:okS l23) (o24:okS l24) (o27:okS l27) (o20:PRo l20 l21) (o25:PRo l25 l26):M67 831 [.val (.ref 0),.val (.ref 1),.val (.ref 34),.val (.int (nI p)),l4,.val (.int (c)),l6,l7,l8,l9,l10,l11,l12,l13,l14,l15,l16,l17,l18,l19,l20,l21,l22,l23,l24,l25,l26,l27,l28] [] (put 1 [((FieldType.array .int,vs.map Value.int):FieldType × List Value)] s A (tl t B)) Q:=by
  obtain ⟨k,hk,hm⟩:=mdX (c >>> (1 &&& 31)) (m:=4) (n:=4) rfl (by decide) (by decide)
  by_cases g:c &&& 1=1
  · simp [g,m67_831,m67_839,m67_844,ks]
    refine hm _ _ ?_
    simp [o6,m67_847g,m67_849,m67_850,m67_853,ks]
    refine si0 hk J.1.ln ?_
    by_cases g2:getA (A 7) (nI k)=2
    · simp [g2,m67_856,m67_857,m67_860,m67_861,m67_863,m67_864,m67_867,ks]
      refine si1 hk J.1.ln g2 ?_
      simp [m67_870,ks]
      refine srW J.1 (fun v s' A' d K => ?_)
      simp [m67_873,ks]
      exact p2 lp hl (J.d d K) o4 (okS_i _) o28 hp hn (okS_i _) o7 o8 o9 o10 o11 o12 o13 o14 o15 o16 o17 o18 o19 o22 o23 o24 o27 o20 o25
    · simp [g2,m67_856,m67_857,ks]
      exact p2 lp hl J o4 (okS_i _) o28 hp hn (okS_i _) o7 o8 o9 o10 o11 o12 o13 o14 o15 o16 o17 o18 o19 o22 o23 o24 o27 o20 o25
  · simp [g,m67_831,ks]
    exact p2 lp hl J o4 (okS_i _) o28 hp hn o6 o7 o8 o9 o10 o11 o12 o13 o14 o15 o16 o17 o18 o19 o22 o23 o24 o27 o20 o25
set_option maxRecDepth 1000000 in
set_option maxHeartbeats 20000000 in
theorem op4 {c:Int32} (lp:LP vs Q n) (hl:vs.length≤260) (J:JV s A t B) (o:OKL l4 l5 l6 l7 l8 l9 l10 l11 l12 l13 l14 l15 l16 l17 l18 l19 l20 l21 l22 l23 l24 l25 l26 l27 l28) (hp:p < 300) (hn:vs.length≤p+n):M67 61 [.val (.ref 0),.val (.ref 1),.val (.ref 34),.val (.int (nI p)),.val (.int (4:Int32)),.val (.int c),l6,l7,l8,l9,l10,l11,l12,l13,l14,l15,l16,l17,l18,l19,l20,l21,l22,l23,l24,l25,l26,l27,l28] [] (put 1 [((FieldType.array .int,vs.map Value.int):FieldType × List Value)] s A (tl t B)) Q:=by
  obtain ⟨o4,o5,o6,o7,o8,o9,o10,o11,o12,o13,o14,o15,o16,o17,o18,o19,o22,o23,o24,o27,o28,o20,o25⟩:=o
  simp [m67_61,m67_186,m67_275,m67_666,m67_704,m67_808,ks]
  exact p1 lp hl J (okS_i _) o5 o28 hp hn o6 o7 o8 o9 o10 o11 o12 o13 o14 o15 o16 o17 o18 o19 o22 o23 o24 o27 o20 o25
set_option maxRecDepth 1000000 in
set_option maxHeartbeats 20000000 in
theorem op5 {c:Int32} (lp:LP vs Q n) (hl:vs.length≤260) (J:JV s A t B) (o:OKL l4 l5 l6 l7 l8 l9 l10 l11 l12 l13 l14 l15 l16 l17 l18 l19 l20 l21 l22 l23 l24 l25 l26 l27 l28) (hp:p < 300) (hn:vs.length≤p+n):M67 61 [.val (.ref 0),.val (.ref 1),.val (.ref 34),.val (.int (nI p)),.val (.int (5:Int32)),.val (.int c),l6,l7,l8,l9,l10,l11,l12,l13,l14,l15,l16,l17,l18,l19,l20,l21,l22,l23,l24,l25,l26,l27,l28] [] (put 1 [((FieldType.array .int,vs.map Value.int):FieldType × List Value)] s A (tl t B)) Q:=by
  obtain ⟨o4,o5,o6,o7,o8,o9,o10,o11,o12,o13,o14,o15,o16,o17,o18,o19,o22,o23,o24,o27,o28,o20,o25⟩:=o
  simp [m67_61,m67_186,m67_275,m67_666,m67_704,m67_808,ks]
  exact p1 lp hl J (okS_i _) o5 o28 hp hn o6 o7 o8 o9 o10 o11 o12 o13 o14 o15 o16 o17 o18 o19 o22 o23 o24 o27 o20 o25
end Chk
set_option maxRecDepth 1000000 in
set_option maxHeartbeats 20000000 in
theorem loop (hl:vs.length≤260) (hQ:∀ s t A B,JV s A t B→Q (some (.int 1)) (put 1 [((FieldType.array .int,vs.map Value.int):FieldType × List Value)] s A (tl t B))):∀ n,LP vs Q n:=by
  have eL:(vs.length.toInt32).toInt=vs.length:=len_toInt (by omega)
  have F:∀ (p:Nat) (l4 l5 l6 l7 l8 l9 l10 l11 l12 l13 l14 l15 l16 l17 l18 l19 l20 l21 l22 l23 l24 l25 l26 l27 l28:Slot) (s t:Nat→Int32) (A B:Nat→List Int32),JV s A t B→¬ nI p < vs.length.toInt32→M67 30 [.val (.ref 0),.val (.ref 1),.val (.ref 34),.val (.int (nI p)),l4,l5,l6,l7,l8,l9,l10,l11,l12,l13,l14,l15,l16,l17,l18,l19,l20,l21,l22,l23,l24,l25,l26,l27,l28] [] (put 1 [((FieldType.array .int,vs.map Value.int):FieldType × List Value)] s A (tl t B)) Q:=by
    intro p l4 l5 l6 l7 l8 l9 l10 l11 l12 l13 l14 l15 l16 l17 l18 l19 l20 l21 l22 l23 l24 l25 l26 l27 l28 s t A B J g
    rw [m67_30]
    simp [g,m67_31,m67_32,m67_32p,m67_33,m67_1802,m67_1803,ks]
    exact hQ s t A B J
  intro n
  induction n with
  | zero =>
    intro p l4 l5 l6 l7 l8 l9 l10 l11 l12 l13 l14 l15 l16 l17 l18 l19 l20 l21 l22 l23 l24 l25 l26 l27 l28 s t A B J o hn hp
    exact F _ l4 l5 l6 l7 l8 l9 l10 l11 l12 l13 l14 l15 l16 l17 l18 l19 l20 l21 l22 l23 l24 l25 l26 l27 l28 s t A B J (by rw [lt_i,eL,nI_int (by omega)]; omega)
  | succ n ih =>
    intro p l4 l5 l6 l7 l8 l9 l10 l11 l12 l13 l14 l15 l16 l17 l18 l19 l20 l21 l22 l23 l24 l25 l26 l27 l28 s t A B J o hn hp
    by_cases g:nI p < vs.length.toInt32
    · have g1:=lti g
      rw [eL,nI_int (by omega)] at g1
      obtain ⟨w,hw⟩:=clX vs (by omega) (p:=p) (by omega)
      obtain ⟨c,hc⟩:=clX vs (by omega) (p:=p+1) (by omega)
      obtain ⟨k,hk,hm⟩:=mdX w (m:=8) (n:=8) rfl (by decide) (by decide)
      have o':=o
      obtain ⟨o4,o5,o6,o7,o8,o9,o10,o11,o12,o13,o14,o15,o16,o17,o18,o19,o22,o23,o24,o27,o28,o20,o25⟩:=o'
      rw [m67_30]
      simp [g,nI_1,m67_31,m67_32,m67_32p,m67_33,m67_36,m67_37,m67_41,ks]
      refine hw _ _ _ _ ?_
      simp [m67_44,m67_46,ks]
      refine hm _ _ ?_
      simp [o4,nI_1,m67_49g,m67_51,m67_52,m67_56,ks]
      refine hc _ _ _ _ ?_
      simp [o5,m67_59g,ks]
      have hp':p+2 < 300:=by omega
      have hn':vs.length≤p+2+n:=by omega
      rcases (by omega:k=0 ∨ k=1 ∨ k=2 ∨ k=3 ∨ k=4 ∨ k=5 ∨ k=6 ∨ k=7) with rfl | rfl | rfl | rfl | rfl | rfl | rfl | rfl
      · exact op0 ih hl J o hp' hn'
      · exact op1 ih hl J o hp' hn'
      · exact op2 ih hl J o hp' hn'
      · exact op3 ih hl J o hp' hn'
      · exact op4 ih hl J o hp' hn'
      · exact op5 ih hl J o hp' hn'
      · exact op6 ih hl J o hp' hn'
      · exact op7 ih hl J o hp' hn'
    · exact F _ l4 l5 l6 l7 l8 l9 l10 l11 l12 l13 l14 l15 l16 l17 l18 l19 l20 l21 l22 l23 l24 l25 l26 l27 l28 s t A B J g
end Law
set_option maxRecDepth 1000000 in
set_option maxHeartbeats 20000000 in
theorem ctW {b:Nat}{pre post:AHeap}{Q:Option Value→AHeap→Prop}{a c:Int32} (hq:∀ s',DV s' A0→Q none (put (b+1) pre s' A0 post)):M0 253 [.val (.ref (b+1)),.val (.int a),.val (.int c),.unset,.unset] [] (put (b+1) pre (fun _ => 0) A0 post) Q:=by
  have D:∀ cap pol:Int32,1≤cap.toInt→DV (ou (ou (ou (ou (ou (fun _ => 0) 17 cap) 18 pol) 4 0) 5 0) 6 0) A0:=by
    intro cap pol h
    exact ⟨fun _ => rfl,⟨0,by decide,rfl⟩,fun p q _ _ a => absurd a (by rw [A0g_7]; decide),fun p _ a => absurd (A0g_7 _) a,fun p _ a => absurd a (by rw [A0g_7]; decide),(by decide:(0:Int)≤(0:Int32).toInt),h⟩
  have T:∀ cap:Int32,1≤cap.toInt→M0 276 [.val (.ref (b+1)),.val (.int a),.val (.int c),.val (.int cap),.unset] [] (put (b+1) pre (ou (fun _ => 0) 17 cap) A0 post) Q:=by
    intro cap h
    by_cases c1:c < 0
    · simp [c1,m0_276,m0_277u,m0_279,m0_281,m0_284,m0_285i,m0_287,m0_289,m0_290,m0_293,m0_294i,m0_296,m0_297,m0_299,m0_302,k0_6,ks]; exact hq _ (D _ _ h)
    by_cases c2:1 < c
    · simp [c1,c2,m0_276,m0_277u,m0_279,m0_281,m0_284,m0_285i,m0_287,m0_289,m0_290,m0_293,m0_294i,m0_296,m0_297,m0_299,m0_302,k0_6,ks]; exact hq _ (D _ _ h)
    · simp [c1,c2,m0_276,m0_277u,m0_279,m0_281,m0_284,m0_285i,m0_287,m0_289,m0_290,m0_293,m0_294i,m0_296,m0_297,m0_299,m0_302,k0_6,ks]; exact hq _ (D _ _ h)
  by_cases a1:a < 2
  · simp [a1,m0_253,m0_254u,m0_255,m0_256,m0_257,m0_260,m0_261i,m0_262,m0_263,m0_265,m0_268,m0_270i,m0_271,m0_272,m0_273,ks]; exact T 2 (by decide)
  by_cases a2:8 < a
  · simp [a1,a2,m0_253,m0_254u,m0_255,m0_256,m0_257,m0_260,m0_261i,m0_262,m0_263,m0_265,m0_268,m0_270i,m0_271,m0_272,m0_273,ks]; exact T 8 (by decide)
  · simp [a1,a2,m0_253,m0_254u,m0_255,m0_256,m0_257,m0_260,m0_261i,m0_262,m0_263,m0_265,m0_268,m0_270i,m0_271,m0_272,m0_273,ks]
    refine T a ?_
    have:=nlti a1
    rw [j_2] at this
    omega
theorem clZ (vs:List Int32) (hl:vs.length≤1000) {p:Nat} (hp:p < 1000):∃ v:Int32,∀ (R:AHeap) (Q:Option Value→AHeap→Prop),Q (some (.int v)) ((FieldType.array .int,vs.map Value.int)::R)→M65 0 [.val (.ref 0),.val (.int (nI p))] [] ((FieldType.array .int,vs.map Value.int)::R) Q:=by
  have e:(vs.length.toInt32).toInt=vs.length:=len_toInt (by omega)
  have e2:=nI_int (n:=p) (by omega)
  by_cases g:nI p < vs.length.toInt32
  · have g1:=lti g
    have q1:inB (nI p) vs:=by rw [inB_iff]; omega
    exact ⟨getA vs (nI p),fun R Q hq => by simp [g,q1,k65_0,ks]; exact hq⟩
  · exact ⟨0,fun R Q hq => by simp [g,k65_0,ks]; exact hq⟩
theorem own_k {vs:List Int32}{Q:Option Value→AHeap→Prop} (hlen:vs.length≤260) (hQ:∀ s t A B,JV s A t B→Q (some (.int 1)) (put 1 [((FieldType.array .int,vs.map Value.int):FieldType × List Value)] s A (tl t B))):M67 0 [.val (.ref 0),.unset,.unset,.unset,.unset,.unset,.unset,.unset,.unset,.unset,.unset,.unset,.unset,.unset,.unset,.unset,.unset,.unset,.unset,.unset,.unset,.unset,.unset,.unset,.unset,.unset,.unset,.unset,.unset] [] [((FieldType.array .int,vs.map Value.int):FieldType × List Value)] Q:=by
  obtain ⟨w,hw⟩:=clZ vs (by omega) (p:=0) (by omega)
  obtain ⟨w1,hw1⟩:=clZ vs (by omega) (p:=1) (by omega)
  simp [m67_0,m67_3,m67_4,m67_5,m67_6,ks]
  refine hw _ _ ?_
  simp [m67_9,m67_10,m67_11,ks]
  refine hw1 _ _ ?_
  simp [m67_14,ks]
  refine Eq.mpr (own_ctor0 (pre:=[((FieldType.array .int,vs.map Value.int):FieldType × List Value)]) (b:=1) rfl (Nat.le_refl 1)) ?_
  refine ctW (b:=0) (fun s hs => ?_)
  simp [put_len,m67_17u,m67_18,m67_21,m67_22,m67_24,ks]
  refine Eq.mpr (own_ctor0 (pre:=put 1 [((FieldType.array .int,vs.map Value.int):FieldType × List Value)] s A0 []) (b:=34) (by rw [put_len]; rfl) (by decide)) ?_
  refine ctW (b:=33) (fun t ht => ?_)
  simp [m67_27u,m67_28,ks]
  rw [← vw]
  refine loop hlen hQ 260 2 _ _ _ _ _ _ _ _ _ _ _ _ _ _ _ _ _ _ _ _ _ _ _ _ _ s t A0 A0 ⟨hs,fun _ => rfl,KP_r,fun p hp => by rw [A0g_7]; decide⟩ ?_ (by omega) (by omega)
  refine ⟨?_,?_,?_,?_,?_,?_,?_,?_,?_,?_,?_,?_,?_,?_,?_,?_,?_,?_,?_,?_,?_,?_,?_⟩ <;> first | exact okS_u | exact Or.inl ⟨rfl,rfl⟩
set_option maxRecDepth 1000000 in
set_option maxHeartbeats 20000000 in
theorem own_law (vs:List Int32) (hlen:vs.length≤260):W tables_1 dn 1 x code ret 0 (entry [.ref 0] maxLocals) [] [(FieldType.array .int,vs.map Value.int)] (fun v H1 => v=some (.int 1)∧H1.length - ([(FieldType.array .int,vs.map Value.int)]:AHeap).length≤144∧tot tables_1 H1 - tot tables_1 [(FieldType.array .int,vs.map Value.int)]≤4736):=by
  show M67 0 [.val (.ref 0),.unset,.unset,.unset,.unset,.unset,.unset,.unset,.unset,.unset,.unset,.unset,.unset,.unset,.unset,.unset,.unset,.unset,.unset,.unset,.unset,.unset,.unset,.unset,.unset,.unset,.unset,.unset,.unset] [] [(FieldType.array .int,vs.map Value.int)] _
  refine own_k hlen (fun s t A B J => ⟨rfl,?_,?_⟩)
  · rw [vw,put_len]; simp
  · have q1:∀ i,(A i).length=(A0 i).length:=J.1.ln
    have q2:∀ i,(B i).length=(A0 i).length:=J.2.1
    have hl:(put 1 [(FieldType.array .int,vs.map Value.int)] s A []).length=34:=by rw [put_len]; rfl
    rw [vw,put_tot,pad_eq hl,put_tot,pad_1]
    simp only [q1,q2,put_len,put_tot,pad_0,tot_nil,List.length_nil,List.length_cons,A0l_0,A0l_1,A0l_2,A0l_3,A0l_4,A0l_5,A0l_6,A0l_7,A0l_8,A0l_9,A0l_10,A0l_11,A0l_12,A0l_13,A0l_14,A0l_15,A0l_16,A0l_17,A0l_18,A0l_19,A0l_20,A0l_21,A0l_22,A0l_23,A0l_24,A0l_25,A0l_26,A0l_27,A0l_28,A0l_29,A0l_30,A0l_31]
    omega
theorem own_dn:∀ f' l',dnOf dn x=some (f',l')→f'≤room_1.frames∧l'≤room_1.locals:=by
  have h:dnOf dn x=some (11,170):=by decide +kernel
  intro f' l' q; rw [h] at q; cases q; decide
theorem own_pn:Jvm.plainName x.cls=true:=by first | (simp [Jvm.plainName,overriddenIn,x]; done) | decide +kernel
theorem own_rm (l:Launch) (Z:State) (a0:Array Value) (hw:∀ d ∈ tables_1,d.before a0 Z=true) (vs:List Int32) (hlen:vs.length≤260) (h:Heap) (a:Addr) (cl:Cell) (Ar:Arr Z h a cl .int) (ev:cl.slots=(vs.map Value.int).toArray) :
    MetFree l x (head1 (Jvm.Cond.code x code maxLocals ret::tables_1) room_1) (fun A U => A=#[.ref a]∧Z.Warmed39 U.vm∧U.heap=h) (fun _ _ _ _ _ => True) (fun _ U o U' => ∃ w L,o=.returned w∧(w=some (.int 1)∧Fr h.size L)∧FrameEnd U o U' L 144 4736) :=
  law_of (as:=[.ref 0]) (mx:=maxLocals) (f:=room_1.frames) (lc:=room_1.locals) hw l tables_1 own_pn (by show 1≤29; omega) (own_law vs hlen) own_dn (Sim.script tables_1 Ar ev)
set_option maxHeartbeats 40000000 in
theorem comes_1 {Post:Tables→Env→Array Value→State→Outcome→State→Prop} (hpost:∀ tb e args s v u,(limb_1_1.after args s (.returned v) u=true∧limb_1_2.after args s (.returned v) u=true∧True)→FrameEnd s (.returned v) u (Jvm.fieldLocs frame_1_writes args s ++ Jvm.arrayLocs frame_1_arrays args s ++ Jvm.staticLocs frame_1_statics s) 144 4736→Post tb e args s (.returned v) u) :
    ArmFor flags0 classFile x code maxLocals ret World_1 tables_1 room_1 Calls_1 rest_1 Pre_1 Post:=by
  intro l hfl _ _ p e ha hc hk s m args below hf hA hF happ hP
  obtain ⟨hcalls,hrest,hpre⟩:=hP
  obtain ⟨-,-,-,hnamed,-,-,-,hat⟩:=(Spec.applies_iff hf).mp happ
  obtain ⟨hg,hn⟩:=and_e (Cond.before_iff.mp (show (Jvm.Cond.and given_1 narrow_1).before args s=true from hpre))
  obtain ⟨g0,q0⟩:=and_e hg
  obtain ⟨w0,rfl⟩:∃ w0:Value,args=#[w0]:=by
    have hs:args.size=1:=by simpa [Cond.value,given_1] using g0
    obtain ⟨L⟩:=args
    match L,hs with
    | [w0],_ => exact ⟨w0,rfl⟩
  have hw:=fun d (hd:d ∈ tables_1) => atoms_spec (ws:=Jvm.Cond.code x code maxLocals ret::tables_1) hat d (List.mem_cons_of_mem _ hd)
  have hfit:Fit s:=fun {y c} hc i hi => by
    obtain ⟨ha,rfl⟩:=Array.getElem?_eq_some_iff.mp hc
    have q:=List.all_eq_true.mp ((Array.all_eq_true_iff_forall_mem.mp hF) _ (Array.getElem_mem ha)) i (List.mem_range.mpr hi)
    simpa [Array.getElem?_eq_getElem hi] using q
  obtain ⟨n1,n2⟩:=and_e hn
  obtain ⟨a,ea⟩:=arr_v n1
  obtain rfl:w0=.ref a:=Option.some.inj ea
  obtain ⟨cl,Ar⟩:=Arr.start ea n1
  obtain ⟨r1,-⟩:=and_e (Cond.before_iff.mp (show rest_1_c.before _ s=true from hrest))
  obtain ⟨z,ez⟩:=is_v r1
  have hat':=Ar.fin (Vm.Alike.refl _)
  have hsz:cl.slots.size < 2 ^ 31∧z=cl.slots.size.toInt32:=by
    simp only [Term.eval] at ea ez
    simp only [ea,hat',Option.bind_eq_bind,Option.bind_some] at ez
    split at ez
    · rename_i hlt; exact ⟨hlt,by simpa using ez.symm⟩
    · cases ez
  obtain ⟨vs,ev⟩:=script_of hfit Ar hsz.1
  have hlen:vs.length≤260:=by
    have e1:cl.slots.size=vs.length:=by rw [ev]; simp
    have e2:=len_toInt hsz.1
    have n3:=Cond.le_ints (a:=.length (.arg 0)) (b:=.int 260) ez (Term.int_eval _)
    rw [n2] at n3
    have n4:=of_decide_eq_true (Option.some.inj n3).symm
    rw [Int32.le_iff_toInt_le,hsz.2,e2] at n4
    have e3:(260:Int32).toInt=260:=by decide
    rw [e3] at n4
    omega
  obtain ⟨n,o,h1,h2,h3,_,L,rfl,⟨rfl,N⟩,hq⟩:=own_rm l s _ hw vs hlen s.heap a cl Ar ev p e ha hc hk s m _ below hf ((Spec.applies_iff_loose hf).mp happ).1 ⟨rfl,State.Warmed39.refl s,rfl⟩ trivial
  exact ⟨n,_,h1,h2,h3,hpost _ _ _ _ _ _ ⟨Cond.after_iff.mpr rfl,Cond.after_iff.mpr (eq_i res_at (Term.int_eval (1)) rfl),trivial⟩ ⟨hq.1,hq.2.1,(hq.2.2.sift fun y hy => Or.inr (N y hy)).mono (by decide) (by decide)⟩⟩
theorem main_1_1:Claimed_1_1:=comes_1 fun _ _ _ _ _ _ h hF => ⟨h.1,hF⟩
theorem main_1_2:Claimed_1_2:=comes_1 fun _ _ _ _ _ _ h hF => ⟨h.2.1,hF⟩
end Jvm.Pilot.@@N@@
namespace Jvm.Pilot.@@N@@
open Jvm Jvm.ClassFile Sem Op Lib Jvm.Free Jvm.Stand Jvm.Pilot.@@N@@.Jvm.D
/-! MADE BY PROGRAM (witnessworld.py) out of the Statement's table words and the real class files: 9 classes; the members and pool entries that the words name. The judged class is class 1, her method 3. -/
namespace start1
set_option maxRecDepth 65536
open Jvm.ClassFile
def u (s:String):CpInfo:=.utf8 (stringToUtf16 s)
/-- a pool by its gaps: so many unusable entries, then the entry; so many at the end -/
def gap:Nat→List CpInfo→List CpInfo
  | 0,r => r
  | n+1,r => .unusable::gap n r
def poolList (es:List (Nat × CpInfo)) (last:Nat):List CpInfo:=es.foldr (fun e r => gap e.1 (e.2::r)) (gap last [])
def pool (es:List (Nat × CpInfo)) (last:Nat):Array CpInfo:=⟨poolList es last⟩
def fileOf (pool:Array CpInfo) (this:Nat) (attrs:Array Attribute:=#[]) (ms:Array MethodInfo:=#[]) (fl:Nat:=33) (sup:Nat:=0) (ifs:Array Nat:=#[]) (fds:Array FieldInfo:=#[]):ClassFile where
  minorVersion:=0
  majorVersion:=65
  constantPool:=pool
  accessFlags:=fl
  thisClass:=this
  superClass:=sup
  interfaces:=ifs
  fields:=fds
  methods:=ms
  attributes:=attrs
def plain (name:String) (sup:Option ClassId):Class where
  name:=name
  kind:=.ordinary
  loader:=none
  accessFlags:=33
  super:=sup
  interfaces:=#[]
  cf:=none
  fields:=#[]
  methods:=#[]
  instanceTypes:=#[]
  staticTypes:=#[]
  resolved:=#[]
  callSites:=[]
  init:=.initialized
  statics:=none
  mirror:=none
def pool0:Array CpInfo:=pool [(5,u "<init>"),(0,u "()V"),(1,.class_ 10),(1,u "java/lang/Object")] 113
def k0c0:Code:={ maxStack:=0,maxLocals:=1,code:=object_method_1_code,exceptionTable:=#[],attributes:=#[] }
def k0m0:Method:={ name := "<init>", desc := "()V", sig:={ parameters:=[],returnType:=none },accessFlags:=1,code:=some k0c0 }
/-- java/lang/Object -/
def k0:Class:={ plain "java/lang/Object" none with
  accessFlags:=33
  interfaces:=#[]
  cf:=some (fileOf pool0 8 #[] #[{ accessFlags:=1,nameIndex:=5,descriptorIndex:=6,attributes:=#[] }] 33 0 #[] #[])
  fields:=#[]
  methods:=#[k0m0]
  instanceTypes:=#[]
  staticTypes:=#[]
  resolved:=Array.replicate 124 none
  statics:=none }
def pool1:Array CpInfo:=pool [(2,.class_ 4),(1,u "java/lang/Object"),(0,u "<init>"),(0,u "()V"),(0,.class_ 8),(0,u "AgentExprDbg"),(0,.methodref 10 11),(0,.class_ 12),(0,.nameAndType 13 14),(0,u "AgentExprDbgOwnLaw"),(0,u "cell"),(0,u "([II)I"),(0,.methodref 7 16),(0,.nameAndType 5 17),(0,u "(II)V"),(0,.methodref 10 19),(0,.nameAndType 20 21),(0,u "mod"),(0,u "(II)I"),(0,.methodref 7 23),(0,.nameAndType 24 25),(0,u "setInstr"),(0,u "(IIII)Z"),(0,.methodref 7 27),(0,.nameAndType 28 29),(0,u "setReg"),(0,u "(II)Z"),(0,.methodref 7 31),(0,.nameAndType 32 29),(0,u "setMem"),(0,.methodref 7 34),(0,.nameAndType 35 29),(0,u "addToken"),(0,.methodref 7 37),(0,.nameAndType 38 39),(0,u "compile"),(0,u "(I)I"),(0,.methodref 7 41),(0,.nameAndType 42 43),(0,u "install"),(0,u "(III)Z"),(0,.methodref 7 45),(0,.nameAndType 46 47),(0,u "uninstall"),(0,u "(I)Z"),(0,.methodref 7 49),(0,.nameAndType 50 6),(0,u "clearTrace"),(0,.methodref 7 52),(0,.nameAndType 53 39),(0,u "getReg"),(0,.methodref 7 55),(0,.nameAndType 56 39),(0,u "run"),(0,.methodref 7 58),(0,.nameAndType 59 21),(0,u "slotInfo"),(0,.methodref 7 61),(0,.nameAndType 62 39),(0,u "status"),(0,.methodref 7 64),(0,.nameAndType 65 21),(0,u "hostEval"),(0,.long 1000003),(1,.methodref 7 69),(0,.nameAndType 70 21),(0,u "frame"),(0,.methodref 7 72),(0,.nameAndType 73 39),(0,u "getMem"),(3,u "law"),(0,u "([I)Z")] 4
def k1m0:Method:={ name := "<init>", desc := "()V", sig:={ parameters:=[],returnType:=none },accessFlags:=1,code:=none }
def k1c1:Code:={ maxStack:=2,maxLocals:=2,code:=method_2_code,exceptionTable:=#[],attributes:=#[] }
def k1m1:Method:={ name := "cell", desc := "([II)I", sig:={ parameters:=[(.array .int),.int],returnType:=some .int },accessFlags:=10,code:=some k1c1 }
def k1c2:Code:={ maxStack:=2,maxLocals:=3,code:=method_3_code,exceptionTable:=#[],attributes:=#[] }
def k1m2:Method:={ name := "mod", desc := "(II)I", sig:={ parameters:=[.int,.int],returnType:=some .int },accessFlags:=10,code:=some k1c2 }
def k1c3:Code:={ maxStack:=5,maxLocals:=29,code:=code,exceptionTable:=#[],attributes:=#[] }
def k1m3:Method:={ name := "law", desc := "([I)Z", sig:={ parameters:=[(.array .int)],returnType:=some .boolean },accessFlags:=9,code:=some k1c3 }
/-- AgentExprDbgOwnLaw -/
def k1:Class:={ plain "AgentExprDbgOwnLaw" (some 0) with
  accessFlags:=49
  interfaces:=#[]
  cf:=some (fileOf pool1 10 #[] #[{ accessFlags:=1,nameIndex:=5,descriptorIndex:=6,attributes:=#[] },{ accessFlags:=10,nameIndex:=13,descriptorIndex:=14,attributes:=#[] },{ accessFlags:=10,nameIndex:=20,descriptorIndex:=21,attributes:=#[] },{ accessFlags:=9,nameIndex:=77,descriptorIndex:=78,attributes:=#[] }] 49 2 #[] #[])
  fields:=#[]
  methods:=#[k1m0,k1m1,k1m2,k1m3]
  instanceTypes:=#[]
  staticTypes:=#[]
  resolved:=Array.replicate 83 none
  statics:=none }
def pool2:Array CpInfo:=pool [(1,.methodref 2 3),(0,.class_ 4),(0,.nameAndType 5 6),(0,u "java/lang/Object"),(0,u "<init>"),(0,u "()V"),(0,.fieldref 8 9),(0,.class_ 10),(0,.nameAndType 11 12),(0,u "AgentExprDbg"),(0,u "reg"),(0,u "[I"),(0,.fieldref 8 14),(0,.nameAndType 15 12),(0,u "mem"),(0,.fieldref 8 17),(0,.nameAndType 18 12),(0,u "progOp"),(0,.fieldref 8 20),(0,.nameAndType 21 12),(0,u "progA"),(0,.fieldref 8 23),(0,.nameAndType 24 12),(0,u "progB"),(0,.fieldref 8 26),(0,.nameAndType 27 12),(0,u "tokKind"),(0,.fieldref 8 29),(0,.nameAndType 30 12),(0,u "tokVal"),(0,.fieldref 8 32),(0,.nameAndType 33 12),(0,u "slotState"),(0,.fieldref 8 35),(0,.nameAndType 36 12),(0,u "slotAddr"),(0,.fieldref 8 38),(0,.nameAndType 39 12),(0,u "slotMode"),(0,.fieldref 8 41),(0,.nameAndType 42 12),(0,u "slotHits"),(0,.fieldref 8 44),(0,.nameAndType 45 12),(0,u "slotExprs"),(0,.fieldref 8 47),(0,.nameAndType 48 12),(0,u "slotLen"),(0,.fieldref 8 50),(0,.nameAndType 51 12),(0,u "codeOp"),(0,.fieldref 8 53),(0,.nameAndType 54 12),(0,u "codeArg"),(0,.fieldref 8 56),(0,.nameAndType 57 12),(0,u "exprStart"),(0,.fieldref 8 59),(0,.nameAndType 60 12),(0,u "exprEnd"),(0,.fieldref 8 62),(0,.nameAndType 63 12),(0,u "sOp"),(0,.fieldref 8 65),(0,.nameAndType 66 12),(0,u "sArg"),(0,.fieldref 8 68),(0,.nameAndType 69 12),(0,u "sStart"),(0,.fieldref 8 71),(0,.nameAndType 72 12),(0,u "sEnd"),(0,.fieldref 8 74),(0,.nameAndType 75 12),(0,u "opKind"),(0,.fieldref 8 77),(0,.nameAndType 78 12),(0,u "opAux"),(0,.fieldref 8 80),(0,.nameAndType 81 12),(0,u "needStk"),(0,.fieldref 8 83),(0,.nameAndType 84 12),(0,u "evStk"),(0,.fieldref 8 86),(0,.nameAndType 87 12),(0,u "frAddr"),(0,.fieldref 8 89),(0,.nameAndType 90 12),(0,u "frSlot"),(0,.fieldref 8 92),(0,.nameAndType 93 12),(0,u "frCnt"),(0,.fieldref 8 95),(0,.nameAndType 96 12),(0,u "frMask"),(0,.fieldref 8 98),(0,.nameAndType 99 12),(0,u "frSeq"),(0,.fieldref 8 101),(0,.nameAndType 102 12),(0,u "frVal"),(0,.fieldref 8 104),(0,.nameAndType 105 12),(0,u "pendVal"),(0,.fieldref 8 107),(0,.nameAndType 108 109),(0,u "capacity"),(0,u "I"),(0,.fieldref 8 111),(0,.nameAndType 112 109),(0,u "policy"),(0,.fieldref 8 114),(0,.nameAndType 115 109),(0,u "lastStop"),(0,.fieldref 8 117),(0,.nameAndType 118 109),(0,u "agentErr"),(0,.fieldref 8 120),(0,.nameAndType 121 109),(0,u "hostErr"),(0,.methodref 8 123),(0,.nameAndType 124 125),(0,u "validInstr"),(0,u "(IIII)Z"),(0,.methodref 8 127),(0,.nameAndType 128 129),(0,u "inRange"),(0,u "(III)Z"),(0,.methodref 8 131),(0,.nameAndType 132 133),(0,u "validSecond"),(0,u "(II)Z"),(0,.fieldref 8 135),(0,.nameAndType 136 109),(0,u "pc"),(0,.fieldref 8 138),(0,.nameAndType 139 140),(0,u "halted"),(0,u "Z"),(0,.fieldref 8 142),(0,.nameAndType 143 140),(0,u "skip"),(0,.fieldref 8 145),(0,.nameAndType 146 109),(0,u "tokCount"),(0,.methodref 8 148),(0,.nameAndType 149 150),(0,u "compileChecked"),(0,u "(I)I"),(0,.methodref 8 152),(0,.nameAndType 153 154),(0,u "parseAll"),(0,u "()Z"),(0,.fieldref 8 156),(0,.nameAndType 157 109),(0,u "sExprs"),(0,.fieldref 8 159),(0,.nameAndType 160 109),(0,u "sMaxNeed"),(0,.methodref 8 162),(0,.nameAndType 163 164),(0,u "storeAgent"),(0,u "(I)V"),(0,.methodref 8 166),(0,.nameAndType 167 6),(0,u "resetScratch"),(0,.fieldref 8 169),(0,.nameAndType 170 140),(0,u "sExpectOperand"),(0,.methodref 8 172),(0,.nameAndType 173 133),(0,u "parseOperand"),(0,.methodref 8 175),(0,.nameAndType 176 177),(0,u "parseOperator"),(0,u "(I)Z"),(0,.methodref 8 179),(0,.nameAndType 180 154),(0,u "finishSource"),(0,.fieldref 8 182),(0,.nameAndType 183 109),(0,u "sLen"),(0,.fieldref 8 185),(0,.nameAndType 186 109),(0,u "sCurStart"),(0,.fieldref 8 188),(0,.nameAndType 189 109),(0,u "opTop"),(0,.fieldref 8 191),(0,.nameAndType 192 109),(0,u "needTop"),(0,.methodref 8 194),(0,.nameAndType 195 177),(0,u "pushNeed"),(0,.methodref 8 197),(0,.nameAndType 198 133),(0,u "emit"),(0,.methodref 8 200),(0,.nameAndType 201 177),(0,u "isUnary"),(0,.methodref 8 203),(0,.nameAndType 204 133),(0,u "pushOp"),(0,.methodref 8 206),(0,.nameAndType 207 154),(0,u "closeParen"),(0,.methodref 8 209),(0,.nameAndType 210 154),(0,u "endOfExpr"),(0,.methodref 8 212),(0,.nameAndType 213 177),(0,u "isBinary"),(0,.methodref 8 215),(0,.nameAndType 216 177),(0,u "binaryOperator"),(0,.methodref 8 218),(0,.nameAndType 219 150),(0,u "precedence"),(0,.methodref 8 221),(0,.nameAndType 222 177),(0,u "reduceWhile"),(0,.methodref 8 224),(0,.nameAndType 225 133),(0,u "reduceOne"),(0,.methodref 8 227),(0,.nameAndType 228 154),(0,u "combineNeed"),(0,.methodref 8 230),(0,.nameAndType 231 154),(0,u "closeExpr"),(0,.methodref 8 233),(0,.nameAndType 234 150),(0,u "slotAt"),(0,.fieldref 8 236),(0,.nameAndType 237 109),(0,u "stepsDone"),(0,.methodref 8 239),(0,.nameAndType 240 150),(0,u "runLoop"),(0,.methodref 8 242),(0,.nameAndType 243 244),(0,u "oneStep"),(0,u "()I"),(0,.methodref 8 246),(0,.nameAndType 247 248),(0,u "agentHit"),(0,u "(II)I"),(0,.methodref 8 250),(0,.nameAndType 251 164),(0,u "execute"),(0,.methodref 8 253),(0,.nameAndType 254 255),(0,u "executeData"),(0,u "(III)V"),(0,.methodref 8 257),(0,.nameAndType 258 248),(0,u "evalExpr"),(0,.fieldref 8 260),(0,.nameAndType 261 109),(0,u "evErr"),(0,.methodref 8 263),(0,.nameAndType 264 265),(0,u "buildFrame"),(0,u "(II)V"),(0,.methodref 8 267),(0,.nameAndType 268 154),(0,u "storeFrame"),(0,.fieldref 8 270),(0,.nameAndType 271 109),(0,u "frameSeq"),(0,.fieldref 8 273),(0,.nameAndType 274 109),(0,u "pendAddr"),(0,.fieldref 8 276),(0,.nameAndType 277 109),(0,u "pendSlot"),(0,.fieldref 8 279),(0,.nameAndType 280 109),(0,u "pendCount"),(0,.fieldref 8 282),(0,.nameAndType 283 109),(0,u "pendMask"),(0,.fieldref 8 285),(0,.nameAndType 286 109),(0,u "pendSeq"),(0,.fieldref 8 288),(0,.nameAndType 289 109),(0,u "frHeld"),(0,.fieldref 8 291),(0,.nameAndType 292 109),(0,u "frHead"),(0,.methodref 8 294),(0,.nameAndType 295 164),(0,u "writePending"),(0,.fieldref 8 297),(0,.nameAndType 298 109),(0,u "dropped"),(0,.methodref 8 300),(0,.nameAndType 301 133),(0,u "validExpr"),(0,.fieldref 8 303),(0,.nameAndType 304 109),(0,u "evSp"),(0,.methodref 8 306),(0,.nameAndType 307 308),(0,u "evalStep"),(0,u "(III)I"),(0,.methodref 8 310),(0,.nameAndType 311 244),(0,u "top"),(0,.methodref 8 313),(0,.nameAndType 314 164),(0,u "push"),(0,.methodref 8 316),(0,.nameAndType 317 308),(0,u "shortCircuit"),(0,.methodref 8 319),(0,.nameAndType 320 164),(0,u "setTop"),(0,.methodref 8 322),(0,.nameAndType 323 164),(0,u "unaryStep"),(0,.methodref 8 325),(0,.nameAndType 326 164),(0,u "binaryStep"),(0,.methodref 8 328),(0,.nameAndType 329 244),(0,u "pop"),(0,.methodref 8 331),(0,.nameAndType 332 248),(0,u "applyUnary"),(0,.methodref 8 334),(0,.nameAndType 335 308),(0,u "applyBinary"),(0,.methodref 8 337),(0,.nameAndType 338 308),(0,u "divide"),(0,.methodref 8 340),(0,.nameAndType 341 308),(0,u "compare"),(0,.methodref 8 343),(0,.nameAndType 344 345),(0,u "boolInt"),(0,u "(Z)I"),(0,.methodref 8 347),(0,.nameAndType 348 150),(0,u "statusMore"),(0,.methodref 8 350),(0,.nameAndType 351 248),(0,u "frameValue"),(0,u "I_HALT"),(2,u "I_SET"),(1,u "I_ADD"),(1,u "I_SUB"),(1,u "I_ADDI"),(1,u "I_LOAD"),(1,u "I_STORE"),(1,u "I_JNZ"),(1,u "T_NUM"),(0,u "T_REG"),(0,u "T_LP"),(0,u "T_RP"),(0,u "T_SEMI"),(0,u "T_NEG"),(0,u "T_NOT"),(0,u "T_AT"),(0,u "T_MUL"),(1,u "T_DIV"),(1,u "T_MOD"),(1,u "T_PLUS"),(1,u "T_MINUS"),(1,u "T_LT"),(1,u "T_LE"),(1,u "T_GT"),(1,u "T_GE"),(1,u "T_EQ"),(1,u "T_NE"),(1,u "T_AND"),(1,u "T_OR"),(1,u "C_OK"),(0,u "C_SYNTAX"),(0,u "C_TOO_MANY"),(0,u "C_TOO_DEEP"),(0,u "C_BAD_SLOT"),(0,u "EVAL_OK"),(0,u "EVAL_DIV0"),(0,u "EVAL_MEM"),(0,u "EVAL_REFUSED"),(0,u "MODE_STOP"),(0,u "MODE_TRACE"),(0,u "POLICY_RING"),(0,u "POLICY_HALT"),(0,u "STOP_REFUSED"),(1,u "STOP_STEPS"),(0,u "STOP_HALT"),(0,u "STOP_BREAK"),(0,u "STOP_FULL"),(0,u "STOP_AGENT_ERROR"),(0,u "REG_PC"),(0,u "INFO_HALTED"),(0,u "INFO_SKIP"),(0,u "INFO_STEPS"),(0,u "INFO_LAST_STOP"),(0,u "INFO_AGENT_ERROR"),(0,u "INFO_HOST_ERROR"),(0,u "INFO_FRAMES"),(0,u "INFO_DROPPED"),(0,u "INFO_TOKENS"),(0,u "INFO_CAPACITY"),(0,u "INFO_POLICY"),(0,u "INFO_SEQ"),(0,u "S_STATE"),(0,u "S_ADDR"),(0,u "S_MODE"),(0,u "S_HITS"),(0,u "S_EXPRS"),(0,u "SLOT_EMPTY"),(0,u "SLOT_COMPILED"),(0,u "SLOT_INSTALLED"),(0,u "F_ADDR"),(0,u "F_SLOT"),(0,u "F_COUNT"),(0,u "F_MASK"),(0,u "F_VAL0"),(0,u "F_VAL1"),(0,u "F_VAL2"),(0,u "F_SEQ"),(0,u "MAX_TOKENS"),(1,u "MAX_EXPRS"),(0,u "MAX_NEED"),(0,u "MAX_STEPS"),(4,u "setInstr"),(0,u "setReg"),(0,u "setMem"),(0,u "getReg"),(0,u "getMem"),(0,u "addToken"),(0,u "compile"),(1,u "install"),(0,u "uninstall"),(0,u "run"),(0,u "hostEval"),(0,u "status"),(0,u "slotInfo"),(0,u "frame"),(0,u "clearTrace")] 2
def k2c0:Code:={ maxStack:=2,maxLocals:=5,code:=prog_1_method_1_code,exceptionTable:=#[],attributes:=#[] }
def k2m0:Method:={ name := "<init>", desc := "(II)V", sig:={ parameters:=[.int,.int],returnType:=none },accessFlags:=1,code:=some k2c0 }
def k2c1:Code:={ maxStack:=5,maxLocals:=5,code:=prog_1_method_2_code,exceptionTable:=#[],attributes:=#[] }
def k2m1:Method:={ name := "setInstr", desc := "(IIII)Z", sig:={ parameters:=[.int,.int,.int,.int],returnType:=some .boolean },accessFlags:=1,code:=some k2c1 }
def k2c2:Code:={ maxStack:=4,maxLocals:=5,code:=prog_1_method_3_code,exceptionTable:=#[],attributes:=#[] }
def k2m2:Method:={ name := "validInstr", desc := "(IIII)Z", sig:={ parameters:=[.int,.int,.int,.int],returnType:=some .boolean },accessFlags:=2,code:=some k2c2 }
def k2c3:Code:={ maxStack:=4,maxLocals:=3,code:=prog_1_method_4_code,exceptionTable:=#[],attributes:=#[] }
def k2m3:Method:={ name := "validSecond", desc := "(II)Z", sig:={ parameters:=[.int,.int],returnType:=some .boolean },accessFlags:=2,code:=some k2c3 }
def k2c4:Code:={ maxStack:=4,maxLocals:=3,code:=prog_1_method_5_code,exceptionTable:=#[],attributes:=#[] }
def k2m4:Method:={ name := "setReg", desc := "(II)Z", sig:={ parameters:=[.int,.int],returnType:=some .boolean },accessFlags:=1,code:=some k2c4 }
def k2c5:Code:={ maxStack:=4,maxLocals:=3,code:=prog_1_method_6_code,exceptionTable:=#[],attributes:=#[] }
def k2m5:Method:={ name := "setMem", desc := "(II)Z", sig:={ parameters:=[.int,.int],returnType:=some .boolean },accessFlags:=1,code:=some k2c5 }
def k2c6:Code:={ maxStack:=4,maxLocals:=2,code:=prog_1_method_7_code,exceptionTable:=#[],attributes:=#[] }
def k2m6:Method:={ name := "getReg", desc := "(I)I", sig:={ parameters:=[.int],returnType:=some .int },accessFlags:=1,code:=some k2c6 }
def k2c7:Code:={ maxStack:=4,maxLocals:=2,code:=prog_1_method_8_code,exceptionTable:=#[],attributes:=#[] }
def k2m7:Method:={ name := "getMem", desc := "(I)I", sig:={ parameters:=[.int],returnType:=some .int },accessFlags:=1,code:=some k2c7 }
def k2c8:Code:={ maxStack:=4,maxLocals:=3,code:=prog_1_method_9_code,exceptionTable:=#[],attributes:=#[] }
def k2m8:Method:={ name := "addToken", desc := "(II)Z", sig:={ parameters:=[.int,.int],returnType:=some .boolean },accessFlags:=1,code:=some k2c8 }
def k2c9:Code:={ maxStack:=2,maxLocals:=3,code:=prog_1_method_10_code,exceptionTable:=#[],attributes:=#[] }
def k2m9:Method:={ name := "compile", desc := "(I)I", sig:={ parameters:=[.int],returnType:=some .int },accessFlags:=1,code:=some k2c9 }
def k2c10:Code:={ maxStack:=4,maxLocals:=2,code:=prog_1_method_11_code,exceptionTable:=#[],attributes:=#[] }
def k2m10:Method:={ name := "compileChecked", desc := "(I)I", sig:={ parameters:=[.int],returnType:=some .int },accessFlags:=2,code:=some k2c10 }
def k2c11:Code:={ maxStack:=3,maxLocals:=5,code:=prog_1_method_12_code,exceptionTable:=#[],attributes:=#[] }
def k2m11:Method:={ name := "parseAll", desc := "()Z", sig:={ parameters:=[],returnType:=some .boolean },accessFlags:=2,code:=some k2c11 }
def k2c12:Code:={ maxStack:=2,maxLocals:=1,code:=prog_1_method_13_code,exceptionTable:=#[],attributes:=#[] }
def k2m12:Method:={ name := "resetScratch", desc := "()V", sig:={ parameters:=[],returnType:=none },accessFlags:=2,code:=some k2c12 }
def k2c13:Code:={ maxStack:=3,maxLocals:=3,code:=prog_1_method_14_code,exceptionTable:=#[],attributes:=#[] }
def k2m13:Method:={ name := "parseOperand", desc := "(II)Z", sig:={ parameters:=[.int,.int],returnType:=some .boolean },accessFlags:=2,code:=some k2c13 }
def k2c14:Code:={ maxStack:=2,maxLocals:=2,code:=prog_1_method_15_code,exceptionTable:=#[],attributes:=#[] }
def k2m14:Method:={ name := "parseOperator", desc := "(I)Z", sig:={ parameters:=[.int],returnType:=some .boolean },accessFlags:=2,code:=some k2c14 }
def k2c15:Code:={ maxStack:=3,maxLocals:=4,code:=prog_1_method_16_code,exceptionTable:=#[],attributes:=#[] }
def k2m15:Method:={ name := "binaryOperator", desc := "(I)Z", sig:={ parameters:=[.int],returnType:=some .boolean },accessFlags:=2,code:=some k2c15 }
def k2c16:Code:={ maxStack:=4,maxLocals:=4,code:=prog_1_method_17_code,exceptionTable:=#[],attributes:=#[] }
def k2m16:Method:={ name := "reduceWhile", desc := "(I)Z", sig:={ parameters:=[.int],returnType:=some .boolean },accessFlags:=2,code:=some k2c16 }
def k2c17:Code:={ maxStack:=3,maxLocals:=3,code:=prog_1_method_18_code,exceptionTable:=#[],attributes:=#[] }
def k2m17:Method:={ name := "reduceOne", desc := "(II)Z", sig:={ parameters:=[.int,.int],returnType:=some .boolean },accessFlags:=2,code:=some k2c17 }
def k2c18:Code:={ maxStack:=3,maxLocals:=1,code:=prog_1_method_19_code,exceptionTable:=#[],attributes:=#[] }
def k2m18:Method:={ name := "closeParen", desc := "()Z", sig:={ parameters:=[],returnType:=some .boolean },accessFlags:=2,code:=some k2c18 }
def k2c19:Code:={ maxStack:=2,maxLocals:=1,code:=prog_1_method_20_code,exceptionTable:=#[],attributes:=#[] }
def k2m19:Method:={ name := "endOfExpr", desc := "()Z", sig:={ parameters:=[],returnType:=some .boolean },accessFlags:=2,code:=some k2c19 }
def k2c20:Code:={ maxStack:=3,maxLocals:=2,code:=prog_1_method_21_code,exceptionTable:=#[],attributes:=#[] }
def k2m20:Method:={ name := "closeExpr", desc := "()Z", sig:={ parameters:=[],returnType:=some .boolean },accessFlags:=2,code:=some k2c20 }
def k2c21:Code:={ maxStack:=2,maxLocals:=1,code:=prog_1_method_22_code,exceptionTable:=#[],attributes:=#[] }
def k2m21:Method:={ name := "finishSource", desc := "()Z", sig:={ parameters:=[],returnType:=some .boolean },accessFlags:=2,code:=some k2c21 }
def k2c22:Code:={ maxStack:=4,maxLocals:=4,code:=prog_1_method_23_code,exceptionTable:=#[],attributes:=#[] }
def k2m22:Method:={ name := "combineNeed", desc := "()Z", sig:={ parameters:=[],returnType:=some .boolean },accessFlags:=2,code:=some k2c22 }
def k2c23:Code:={ maxStack:=3,maxLocals:=2,code:=prog_1_method_24_code,exceptionTable:=#[],attributes:=#[] }
def k2m23:Method:={ name := "pushNeed", desc := "(I)Z", sig:={ parameters:=[.int],returnType:=some .boolean },accessFlags:=2,code:=some k2c23 }
def k2c24:Code:={ maxStack:=3,maxLocals:=3,code:=prog_1_method_25_code,exceptionTable:=#[],attributes:=#[] }
def k2m24:Method:={ name := "pushOp", desc := "(II)Z", sig:={ parameters:=[.int,.int],returnType:=some .boolean },accessFlags:=2,code:=some k2c24 }
def k2c25:Code:={ maxStack:=3,maxLocals:=3,code:=prog_1_method_26_code,exceptionTable:=#[],attributes:=#[] }
def k2m25:Method:={ name := "emit", desc := "(II)Z", sig:={ parameters:=[.int,.int],returnType:=some .boolean },accessFlags:=2,code:=some k2c25 }
def k2c26:Code:={ maxStack:=2,maxLocals:=2,code:=prog_1_method_27_code,exceptionTable:=#[],attributes:=#[] }
def k2m26:Method:={ name := "precedence", desc := "(I)I", sig:={ parameters:=[.int],returnType:=some .int },accessFlags:=2,code:=some k2c26 }
def k2c27:Code:={ maxStack:=2,maxLocals:=2,code:=prog_1_method_28_code,exceptionTable:=#[],attributes:=#[] }
def k2m27:Method:={ name := "isUnary", desc := "(I)Z", sig:={ parameters:=[.int],returnType:=some .boolean },accessFlags:=2,code:=some k2c27 }
def k2c28:Code:={ maxStack:=2,maxLocals:=2,code:=prog_1_method_29_code,exceptionTable:=#[],attributes:=#[] }
def k2m28:Method:={ name := "isBinary", desc := "(I)Z", sig:={ parameters:=[.int],returnType:=some .boolean },accessFlags:=2,code:=some k2c28 }
def k2c29:Code:={ maxStack:=4,maxLocals:=5,code:=prog_1_method_30_code,exceptionTable:=#[],attributes:=#[] }
def k2m29:Method:={ name := "storeAgent", desc := "(I)V", sig:={ parameters:=[.int],returnType:=none },accessFlags:=2,code:=some k2c29 }
def k2c30:Code:={ maxStack:=4,maxLocals:=5,code:=prog_1_method_31_code,exceptionTable:=#[],attributes:=#[] }
def k2m30:Method:={ name := "install", desc := "(III)Z", sig:={ parameters:=[.int,.int,.int],returnType:=some .boolean },accessFlags:=1,code:=some k2c30 }
def k2c31:Code:={ maxStack:=4,maxLocals:=2,code:=prog_1_method_32_code,exceptionTable:=#[],attributes:=#[] }
def k2m31:Method:={ name := "uninstall", desc := "(I)Z", sig:={ parameters:=[.int],returnType:=some .boolean },accessFlags:=1,code:=some k2c31 }
def k2c32:Code:={ maxStack:=2,maxLocals:=3,code:=prog_1_method_33_code,exceptionTable:=#[],attributes:=#[] }
def k2m32:Method:={ name := "slotAt", desc := "(I)I", sig:={ parameters:=[.int],returnType:=some .int },accessFlags:=2,code:=some k2c32 }
def k2c33:Code:={ maxStack:=2,maxLocals:=4,code:=prog_1_method_34_code,exceptionTable:=#[],attributes:=#[] }
def k2m33:Method:={ name := "run", desc := "(I)I", sig:={ parameters:=[.int],returnType:=some .int },accessFlags:=1,code:=some k2c33 }
def k2c34:Code:={ maxStack:=2,maxLocals:=4,code:=prog_1_method_35_code,exceptionTable:=#[],attributes:=#[] }
def k2m34:Method:={ name := "runLoop", desc := "(I)I", sig:={ parameters:=[.int],returnType:=some .int },accessFlags:=2,code:=some k2c34 }
def k2c35:Code:={ maxStack:=3,maxLocals:=4,code:=prog_1_method_36_code,exceptionTable:=#[],attributes:=#[] }
def k2m35:Method:={ name := "oneStep", desc := "()I", sig:={ parameters:=[],returnType:=some .int },accessFlags:=2,code:=some k2c35 }
def k2c36:Code:={ maxStack:=4,maxLocals:=6,code:=prog_1_method_37_code,exceptionTable:=#[],attributes:=#[] }
def k2m36:Method:={ name := "execute", desc := "(I)V", sig:={ parameters:=[.int],returnType:=none },accessFlags:=2,code:=some k2c36 }
def k2c37:Code:={ maxStack:=5,maxLocals:=5,code:=prog_1_method_38_code,exceptionTable:=#[],attributes:=#[] }
def k2m37:Method:={ name := "executeData", desc := "(III)V", sig:={ parameters:=[.int,.int,.int],returnType:=none },accessFlags:=2,code:=some k2c37 }
def k2c38:Code:={ maxStack:=4,maxLocals:=4,code:=prog_1_method_39_code,exceptionTable:=#[],attributes:=#[] }
def k2m38:Method:={ name := "agentHit", desc := "(II)I", sig:={ parameters:=[.int,.int],returnType:=some .int },accessFlags:=2,code:=some k2c38 }
def k2c39:Code:={ maxStack:=5,maxLocals:=6,code:=prog_1_method_40_code,exceptionTable:=#[],attributes:=#[] }
def k2m39:Method:={ name := "buildFrame", desc := "(II)V", sig:={ parameters:=[.int,.int],returnType:=none },accessFlags:=2,code:=some k2c39 }
def k2c40:Code:={ maxStack:=3,maxLocals:=1,code:=prog_1_method_41_code,exceptionTable:=#[],attributes:=#[] }
def k2m40:Method:={ name := "storeFrame", desc := "()Z", sig:={ parameters:=[],returnType:=some .boolean },accessFlags:=2,code:=some k2c40 }
def k2c41:Code:={ maxStack:=4,maxLocals:=4,code:=prog_1_method_42_code,exceptionTable:=#[],attributes:=#[] }
def k2m41:Method:={ name := "writePending", desc := "(I)V", sig:={ parameters:=[.int],returnType:=none },accessFlags:=2,code:=some k2c41 }
def k2c42:Code:={ maxStack:=3,maxLocals:=4,code:=prog_1_method_43_code,exceptionTable:=#[],attributes:=#[] }
def k2m42:Method:={ name := "hostEval", desc := "(II)I", sig:={ parameters:=[.int,.int],returnType:=some .int },accessFlags:=1,code:=some k2c42 }
def k2c43:Code:={ maxStack:=4,maxLocals:=3,code:=prog_1_method_44_code,exceptionTable:=#[],attributes:=#[] }
def k2m43:Method:={ name := "validExpr", desc := "(II)Z", sig:={ parameters:=[.int,.int],returnType:=some .boolean },accessFlags:=2,code:=some k2c43 }
def k2c44:Code:={ maxStack:=5,maxLocals:=7,code:=prog_1_method_45_code,exceptionTable:=#[],attributes:=#[] }
def k2m44:Method:={ name := "evalExpr", desc := "(II)I", sig:={ parameters:=[.int,.int],returnType:=some .int },accessFlags:=2,code:=some k2c44 }
def k2c45:Code:={ maxStack:=4,maxLocals:=5,code:=prog_1_method_46_code,exceptionTable:=#[],attributes:=#[] }
def k2m45:Method:={ name := "evalStep", desc := "(III)I", sig:={ parameters:=[.int,.int,.int],returnType:=some .int },accessFlags:=2,code:=some k2c45 }
def k2c46:Code:={ maxStack:=2,maxLocals:=5,code:=prog_1_method_47_code,exceptionTable:=#[],attributes:=#[] }
def k2m46:Method:={ name := "shortCircuit", desc := "(III)I", sig:={ parameters:=[.int,.int,.int],returnType:=some .int },accessFlags:=2,code:=some k2c46 }
def k2c47:Code:={ maxStack:=3,maxLocals:=4,code:=prog_1_method_48_code,exceptionTable:=#[],attributes:=#[] }
def k2m47:Method:={ name := "unaryStep", desc := "(I)V", sig:={ parameters:=[.int],returnType:=none },accessFlags:=2,code:=some k2c47 }
def k2c48:Code:={ maxStack:=4,maxLocals:=5,code:=prog_1_method_49_code,exceptionTable:=#[],attributes:=#[] }
def k2m48:Method:={ name := "binaryStep", desc := "(I)V", sig:={ parameters:=[.int],returnType:=none },accessFlags:=2,code:=some k2c48 }
def k2c49:Code:={ maxStack:=4,maxLocals:=3,code:=prog_1_method_50_code,exceptionTable:=#[],attributes:=#[] }
def k2m49:Method:={ name := "applyUnary", desc := "(II)I", sig:={ parameters:=[.int,.int],returnType:=some .int },accessFlags:=2,code:=some k2c49 }
def k2c50:Code:={ maxStack:=4,maxLocals:=4,code:=prog_1_method_51_code,exceptionTable:=#[],attributes:=#[] }
def k2m50:Method:={ name := "applyBinary", desc := "(III)I", sig:={ parameters:=[.int,.int,.int],returnType:=some .int },accessFlags:=2,code:=some k2c50 }
def k2c51:Code:={ maxStack:=2,maxLocals:=4,code:=prog_1_method_52_code,exceptionTable:=#[],attributes:=#[] }
def k2m51:Method:={ name := "divide", desc := "(III)I", sig:={ parameters:=[.int,.int,.int],returnType:=some .int },accessFlags:=2,code:=some k2c51 }
def k2c52:Code:={ maxStack:=3,maxLocals:=4,code:=prog_1_method_53_code,exceptionTable:=#[],attributes:=#[] }
def k2m52:Method:={ name := "compare", desc := "(III)I", sig:={ parameters:=[.int,.int,.int],returnType:=some .int },accessFlags:=2,code:=some k2c52 }
def k2c53:Code:={ maxStack:=3,maxLocals:=2,code:=prog_1_method_54_code,exceptionTable:=#[],attributes:=#[] }
def k2m53:Method:={ name := "push", desc := "(I)V", sig:={ parameters:=[.int],returnType:=none },accessFlags:=2,code:=some k2c53 }
def k2c54:Code:={ maxStack:=3,maxLocals:=1,code:=prog_1_method_55_code,exceptionTable:=#[],attributes:=#[] }
def k2m54:Method:={ name := "pop", desc := "()I", sig:={ parameters:=[],returnType:=some .int },accessFlags:=2,code:=some k2c54 }
def k2c55:Code:={ maxStack:=3,maxLocals:=1,code:=prog_1_method_56_code,exceptionTable:=#[],attributes:=#[] }
def k2m55:Method:={ name := "top", desc := "()I", sig:={ parameters:=[],returnType:=some .int },accessFlags:=2,code:=some k2c55 }
def k2c56:Code:={ maxStack:=3,maxLocals:=2,code:=prog_1_method_57_code,exceptionTable:=#[],attributes:=#[] }
def k2m56:Method:={ name := "setTop", desc := "(I)V", sig:={ parameters:=[.int],returnType:=none },accessFlags:=2,code:=some k2c56 }
def k2c57:Code:={ maxStack:=2,maxLocals:=2,code:=prog_1_method_58_code,exceptionTable:=#[],attributes:=#[] }
def k2m57:Method:={ name := "status", desc := "(I)I", sig:={ parameters:=[.int],returnType:=some .int },accessFlags:=1,code:=some k2c57 }
def k2c58:Code:={ maxStack:=2,maxLocals:=2,code:=prog_1_method_59_code,exceptionTable:=#[],attributes:=#[] }
def k2m58:Method:={ name := "statusMore", desc := "(I)I", sig:={ parameters:=[.int],returnType:=some .int },accessFlags:=2,code:=some k2c58 }
def k2c59:Code:={ maxStack:=4,maxLocals:=4,code:=prog_1_method_60_code,exceptionTable:=#[],attributes:=#[] }
def k2m59:Method:={ name := "slotInfo", desc := "(II)I", sig:={ parameters:=[.int,.int],returnType:=some .int },accessFlags:=1,code:=some k2c59 }
def k2c60:Code:={ maxStack:=3,maxLocals:=4,code:=prog_1_method_61_code,exceptionTable:=#[],attributes:=#[] }
def k2m60:Method:={ name := "frame", desc := "(II)I", sig:={ parameters:=[.int,.int],returnType:=some .int },accessFlags:=1,code:=some k2c60 }
def k2c61:Code:={ maxStack:=3,maxLocals:=4,code:=prog_1_method_62_code,exceptionTable:=#[],attributes:=#[] }
def k2m61:Method:={ name := "frameValue", desc := "(II)I", sig:={ parameters:=[.int,.int],returnType:=some .int },accessFlags:=2,code:=some k2c61 }
def k2c62:Code:={ maxStack:=2,maxLocals:=1,code:=prog_1_method_63_code,exceptionTable:=#[],attributes:=#[] }
def k2m62:Method:={ name := "clearTrace", desc := "()V", sig:={ parameters:=[],returnType:=none },accessFlags:=1,code:=some k2c62 }
def k2c63:Code:={ maxStack:=2,maxLocals:=4,code:=prog_1_method_64_code,exceptionTable:=#[],attributes:=#[] }
def k2m63:Method:={ name := "inRange", desc := "(III)Z", sig:={ parameters:=[.int,.int,.int],returnType:=some .boolean },accessFlags:=2,code:=some k2c63 }
def k2c64:Code:={ maxStack:=1,maxLocals:=2,code:=prog_1_method_65_code,exceptionTable:=#[],attributes:=#[] }
def k2m64:Method:={ name := "boolInt", desc := "(Z)I", sig:={ parameters:=[.boolean],returnType:=some .int },accessFlags:=2,code:=some k2c64 }
/-- AgentExprDbg -/
def k2:Class:={ plain "AgentExprDbg" (some 0) with
  accessFlags:=49
  interfaces:=#[]
  cf:=some (fileOf pool2 8 #[] #[{ accessFlags:=1,nameIndex:=5,descriptorIndex:=265,attributes:=#[] },{ accessFlags:=1,nameIndex:=461,descriptorIndex:=125,attributes:=#[] },{ accessFlags:=2,nameIndex:=124,descriptorIndex:=125,attributes:=#[] },{ accessFlags:=2,nameIndex:=132,descriptorIndex:=133,attributes:=#[] },{ accessFlags:=1,nameIndex:=462,descriptorIndex:=133,attributes:=#[] },{ accessFlags:=1,nameIndex:=463,descriptorIndex:=133,attributes:=#[] },{ accessFlags:=1,nameIndex:=464,descriptorIndex:=150,attributes:=#[] },{ accessFlags:=1,nameIndex:=465,descriptorIndex:=150,attributes:=#[] },{ accessFlags:=1,nameIndex:=466,descriptorIndex:=133,attributes:=#[] },{ accessFlags:=1,nameIndex:=467,descriptorIndex:=150,attributes:=#[] },{ accessFlags:=2,nameIndex:=149,descriptorIndex:=150,attributes:=#[] },{ accessFlags:=2,nameIndex:=153,descriptorIndex:=154,attributes:=#[] },{ accessFlags:=2,nameIndex:=167,descriptorIndex:=6,attributes:=#[] },{ accessFlags:=2,nameIndex:=173,descriptorIndex:=133,attributes:=#[] },{ accessFlags:=2,nameIndex:=176,descriptorIndex:=177,attributes:=#[] },{ accessFlags:=2,nameIndex:=216,descriptorIndex:=177,attributes:=#[] },{ accessFlags:=2,nameIndex:=222,descriptorIndex:=177,attributes:=#[] },{ accessFlags:=2,nameIndex:=225,descriptorIndex:=133,attributes:=#[] },{ accessFlags:=2,nameIndex:=207,descriptorIndex:=154,attributes:=#[] },{ accessFlags:=2,nameIndex:=210,descriptorIndex:=154,attributes:=#[] },{ accessFlags:=2,nameIndex:=231,descriptorIndex:=154,attributes:=#[] },{ accessFlags:=2,nameIndex:=180,descriptorIndex:=154,attributes:=#[] },{ accessFlags:=2,nameIndex:=228,descriptorIndex:=154,attributes:=#[] },{ accessFlags:=2,nameIndex:=195,descriptorIndex:=177,attributes:=#[] },{ accessFlags:=2,nameIndex:=204,descriptorIndex:=133,attributes:=#[] },{ accessFlags:=2,nameIndex:=198,descriptorIndex:=133,attributes:=#[] },{ accessFlags:=2,nameIndex:=219,descriptorIndex:=150,attributes:=#[] },{ accessFlags:=2,nameIndex:=201,descriptorIndex:=177,attributes:=#[] },{ accessFlags:=2,nameIndex:=213,descriptorIndex:=177,attributes:=#[] },{ accessFlags:=2,nameIndex:=163,descriptorIndex:=164,attributes:=#[] },{ accessFlags:=1,nameIndex:=469,descriptorIndex:=129,attributes:=#[] },{ accessFlags:=1,nameIndex:=470,descriptorIndex:=177,attributes:=#[] },{ accessFlags:=2,nameIndex:=234,descriptorIndex:=150,attributes:=#[] },{ accessFlags:=1,nameIndex:=471,descriptorIndex:=150,attributes:=#[] },{ accessFlags:=2,nameIndex:=240,descriptorIndex:=150,attributes:=#[] },{ accessFlags:=2,nameIndex:=243,descriptorIndex:=244,attributes:=#[] },{ accessFlags:=2,nameIndex:=251,descriptorIndex:=164,attributes:=#[] },{ accessFlags:=2,nameIndex:=254,descriptorIndex:=255,attributes:=#[] },{ accessFlags:=2,nameIndex:=247,descriptorIndex:=248,attributes:=#[] },{ accessFlags:=2,nameIndex:=264,descriptorIndex:=265,attributes:=#[] },{ accessFlags:=2,nameIndex:=268,descriptorIndex:=154,attributes:=#[] },{ accessFlags:=2,nameIndex:=295,descriptorIndex:=164,attributes:=#[] },{ accessFlags:=1,nameIndex:=472,descriptorIndex:=248,attributes:=#[] },{ accessFlags:=2,nameIndex:=301,descriptorIndex:=133,attributes:=#[] },{ accessFlags:=2,nameIndex:=258,descriptorIndex:=248,attributes:=#[] },{ accessFlags:=2,nameIndex:=307,descriptorIndex:=308,attributes:=#[] },{ accessFlags:=2,nameIndex:=317,descriptorIndex:=308,attributes:=#[] },{ accessFlags:=2,nameIndex:=323,descriptorIndex:=164,attributes:=#[] },{ accessFlags:=2,nameIndex:=326,descriptorIndex:=164,attributes:=#[] },{ accessFlags:=2,nameIndex:=332,descriptorIndex:=248,attributes:=#[] },{ accessFlags:=2,nameIndex:=335,descriptorIndex:=308,attributes:=#[] },{ accessFlags:=2,nameIndex:=338,descriptorIndex:=308,attributes:=#[] },{ accessFlags:=2,nameIndex:=341,descriptorIndex:=308,attributes:=#[] },{ accessFlags:=2,nameIndex:=314,descriptorIndex:=164,attributes:=#[] },{ accessFlags:=2,nameIndex:=329,descriptorIndex:=244,attributes:=#[] },{ accessFlags:=2,nameIndex:=311,descriptorIndex:=244,attributes:=#[] },{ accessFlags:=2,nameIndex:=320,descriptorIndex:=164,attributes:=#[] },{ accessFlags:=1,nameIndex:=473,descriptorIndex:=150,attributes:=#[] },{ accessFlags:=2,nameIndex:=348,descriptorIndex:=150,attributes:=#[] },{ accessFlags:=1,nameIndex:=474,descriptorIndex:=248,attributes:=#[] },{ accessFlags:=1,nameIndex:=475,descriptorIndex:=248,attributes:=#[] },{ accessFlags:=2,nameIndex:=351,descriptorIndex:=248,attributes:=#[] },{ accessFlags:=1,nameIndex:=476,descriptorIndex:=6,attributes:=#[] },{ accessFlags:=2,nameIndex:=128,descriptorIndex:=129,attributes:=#[] },{ accessFlags:=2,nameIndex:=344,descriptorIndex:=345,attributes:=#[] }] 49 2 #[] #[{ accessFlags:=25,nameIndex:=352,descriptorIndex:=109,attributes:=#[] },{ accessFlags:=25,nameIndex:=355,descriptorIndex:=109,attributes:=#[] },{ accessFlags:=25,nameIndex:=357,descriptorIndex:=109,attributes:=#[] },{ accessFlags:=25,nameIndex:=359,descriptorIndex:=109,attributes:=#[] },{ accessFlags:=25,nameIndex:=361,descriptorIndex:=109,attributes:=#[] },{ accessFlags:=25,nameIndex:=363,descriptorIndex:=109,attributes:=#[] },{ accessFlags:=25,nameIndex:=365,descriptorIndex:=109,attributes:=#[] },{ accessFlags:=25,nameIndex:=367,descriptorIndex:=109,attributes:=#[] },{ accessFlags:=25,nameIndex:=369,descriptorIndex:=109,attributes:=#[] },{ accessFlags:=25,nameIndex:=370,descriptorIndex:=109,attributes:=#[] },{ accessFlags:=25,nameIndex:=371,descriptorIndex:=109,attributes:=#[] },{ accessFlags:=25,nameIndex:=372,descriptorIndex:=109,attributes:=#[] },{ accessFlags:=25,nameIndex:=373,descriptorIndex:=109,attributes:=#[] },{ accessFlags:=25,nameIndex:=374,descriptorIndex:=109,attributes:=#[] },{ accessFlags:=25,nameIndex:=375,descriptorIndex:=109,attributes:=#[] },{ accessFlags:=25,nameIndex:=376,descriptorIndex:=109,attributes:=#[] },{ accessFlags:=25,nameIndex:=377,descriptorIndex:=109,attributes:=#[] },{ accessFlags:=25,nameIndex:=379,descriptorIndex:=109,attributes:=#[] },{ accessFlags:=25,nameIndex:=381,descriptorIndex:=109,attributes:=#[] },{ accessFlags:=25,nameIndex:=383,descriptorIndex:=109,attributes:=#[] },{ accessFlags:=25,nameIndex:=385,descriptorIndex:=109,attributes:=#[] },{ accessFlags:=25,nameIndex:=387,descriptorIndex:=109,attributes:=#[] },{ accessFlags:=25,nameIndex:=389,descriptorIndex:=109,attributes:=#[] },{ accessFlags:=25,nameIndex:=391,descriptorIndex:=109,attributes:=#[] },{ accessFlags:=25,nameIndex:=393,descriptorIndex:=109,attributes:=#[] },{ accessFlags:=25,nameIndex:=395,descriptorIndex:=109,attributes:=#[] },{ accessFlags:=25,nameIndex:=397,descriptorIndex:=109,attributes:=#[] },{ accessFlags:=25,nameIndex:=399,descriptorIndex:=109,attributes:=#[] },{ accessFlags:=25,nameIndex:=401,descriptorIndex:=109,attributes:=#[] },{ accessFlags:=25,nameIndex:=403,descriptorIndex:=109,attributes:=#[] },{ accessFlags:=25,nameIndex:=404,descriptorIndex:=109,attributes:=#[] },{ accessFlags:=25,nameIndex:=405,descriptorIndex:=109,attributes:=#[] },{ accessFlags:=25,nameIndex:=406,descriptorIndex:=109,attributes:=#[] },{ accessFlags:=25,nameIndex:=407,descriptorIndex:=109,attributes:=#[] },{ accessFlags:=25,nameIndex:=408,descriptorIndex:=109,attributes:=#[] },{ accessFlags:=25,nameIndex:=409,descriptorIndex:=109,attributes:=#[] },{ accessFlags:=25,nameIndex:=410,descriptorIndex:=109,attributes:=#[] },{ accessFlags:=25,nameIndex:=411,descriptorIndex:=109,attributes:=#[] },{ accessFlags:=25,nameIndex:=412,descriptorIndex:=109,attributes:=#[] },{ accessFlags:=25,nameIndex:=413,descriptorIndex:=109,attributes:=#[] },{ accessFlags:=25,nameIndex:=414,descriptorIndex:=109,attributes:=#[] },{ accessFlags:=25,nameIndex:=415,descriptorIndex:=109,attributes:=#[] },{ accessFlags:=25,nameIndex:=416,descriptorIndex:=109,attributes:=#[] },{ accessFlags:=25,nameIndex:=418,descriptorIndex:=109,attributes:=#[] },{ accessFlags:=25,nameIndex:=419,descriptorIndex:=109,attributes:=#[] },{ accessFlags:=25,nameIndex:=420,descriptorIndex:=109,attributes:=#[] },{ accessFlags:=25,nameIndex:=421,descriptorIndex:=109,attributes:=#[] },{ accessFlags:=25,nameIndex:=422,descriptorIndex:=109,attributes:=#[] },{ accessFlags:=25,nameIndex:=423,descriptorIndex:=109,attributes:=#[] },{ accessFlags:=25,nameIndex:=424,descriptorIndex:=109,attributes:=#[] },{ accessFlags:=25,nameIndex:=425,descriptorIndex:=109,attributes:=#[] },{ accessFlags:=25,nameIndex:=426,descriptorIndex:=109,attributes:=#[] },{ accessFlags:=25,nameIndex:=427,descriptorIndex:=109,attributes:=#[] },{ accessFlags:=25,nameIndex:=428,descriptorIndex:=109,attributes:=#[] },{ accessFlags:=25,nameIndex:=429,descriptorIndex:=109,attributes:=#[] },{ accessFlags:=25,nameIndex:=430,descriptorIndex:=109,attributes:=#[] },{ accessFlags:=25,nameIndex:=431,descriptorIndex:=109,attributes:=#[] },{ accessFlags:=25,nameIndex:=432,descriptorIndex:=109,attributes:=#[] },{ accessFlags:=25,nameIndex:=433,descriptorIndex:=109,attributes:=#[] },{ accessFlags:=25,nameIndex:=434,descriptorIndex:=109,attributes:=#[] },{ accessFlags:=25,nameIndex:=435,descriptorIndex:=109,attributes:=#[] },{ accessFlags:=25,nameIndex:=436,descriptorIndex:=109,attributes:=#[] },{ accessFlags:=25,nameIndex:=437,descriptorIndex:=109,attributes:=#[] },{ accessFlags:=25,nameIndex:=438,descriptorIndex:=109,attributes:=#[] },{ accessFlags:=25,nameIndex:=439,descriptorIndex:=109,attributes:=#[] },{ accessFlags:=25,nameIndex:=440,descriptorIndex:=109,attributes:=#[] },{ accessFlags:=25,nameIndex:=441,descriptorIndex:=109,attributes:=#[] },{ accessFlags:=25,nameIndex:=442,descriptorIndex:=109,attributes:=#[] },{ accessFlags:=25,nameIndex:=443,descriptorIndex:=109,attributes:=#[] },{ accessFlags:=25,nameIndex:=444,descriptorIndex:=109,attributes:=#[] },{ accessFlags:=25,nameIndex:=445,descriptorIndex:=109,attributes:=#[] },{ accessFlags:=25,nameIndex:=446,descriptorIndex:=109,attributes:=#[] },{ accessFlags:=25,nameIndex:=447,descriptorIndex:=109,attributes:=#[] },{ accessFlags:=25,nameIndex:=448,descriptorIndex:=109,attributes:=#[] },{ accessFlags:=25,nameIndex:=449,descriptorIndex:=109,attributes:=#[] },{ accessFlags:=25,nameIndex:=450,descriptorIndex:=109,attributes:=#[] },{ accessFlags:=25,nameIndex:=451,descriptorIndex:=109,attributes:=#[] },{ accessFlags:=25,nameIndex:=452,descriptorIndex:=109,attributes:=#[] },{ accessFlags:=25,nameIndex:=454,descriptorIndex:=109,attributes:=#[] },{ accessFlags:=25,nameIndex:=455,descriptorIndex:=109,attributes:=#[] },{ accessFlags:=25,nameIndex:=456,descriptorIndex:=109,attributes:=#[] },{ accessFlags:=2,nameIndex:=11,descriptorIndex:=12,attributes:=#[] },{ accessFlags:=2,nameIndex:=15,descriptorIndex:=12,attributes:=#[] },{ accessFlags:=2,nameIndex:=18,descriptorIndex:=12,attributes:=#[] },{ accessFlags:=2,nameIndex:=21,descriptorIndex:=12,attributes:=#[] },{ accessFlags:=2,nameIndex:=24,descriptorIndex:=12,attributes:=#[] },{ accessFlags:=2,nameIndex:=136,descriptorIndex:=109,attributes:=#[] },{ accessFlags:=2,nameIndex:=139,descriptorIndex:=140,attributes:=#[] },{ accessFlags:=2,nameIndex:=143,descriptorIndex:=140,attributes:=#[] },{ accessFlags:=2,nameIndex:=237,descriptorIndex:=109,attributes:=#[] },{ accessFlags:=2,nameIndex:=115,descriptorIndex:=109,attributes:=#[] },{ accessFlags:=2,nameIndex:=118,descriptorIndex:=109,attributes:=#[] },{ accessFlags:=2,nameIndex:=121,descriptorIndex:=109,attributes:=#[] },{ accessFlags:=2,nameIndex:=27,descriptorIndex:=12,attributes:=#[] },{ accessFlags:=2,nameIndex:=30,descriptorIndex:=12,attributes:=#[] },{ accessFlags:=2,nameIndex:=146,descriptorIndex:=109,attributes:=#[] },{ accessFlags:=2,nameIndex:=33,descriptorIndex:=12,attributes:=#[] },{ accessFlags:=2,nameIndex:=36,descriptorIndex:=12,attributes:=#[] },{ accessFlags:=2,nameIndex:=39,descriptorIndex:=12,attributes:=#[] },{ accessFlags:=2,nameIndex:=42,descriptorIndex:=12,attributes:=#[] },{ accessFlags:=2,nameIndex:=45,descriptorIndex:=12,attributes:=#[] },{ accessFlags:=2,nameIndex:=48,descriptorIndex:=12,attributes:=#[] },{ accessFlags:=2,nameIndex:=51,descriptorIndex:=12,attributes:=#[] },{ accessFlags:=2,nameIndex:=54,descriptorIndex:=12,attributes:=#[] },{ accessFlags:=2,nameIndex:=57,descriptorIndex:=12,attributes:=#[] },{ accessFlags:=2,nameIndex:=60,descriptorIndex:=12,attributes:=#[] },{ accessFlags:=2,nameIndex:=63,descriptorIndex:=12,attributes:=#[] },{ accessFlags:=2,nameIndex:=66,descriptorIndex:=12,attributes:=#[] },{ accessFlags:=2,nameIndex:=183,descriptorIndex:=109,attributes:=#[] },{ accessFlags:=2,nameIndex:=69,descriptorIndex:=12,attributes:=#[] },{ accessFlags:=2,nameIndex:=72,descriptorIndex:=12,attributes:=#[] },{ accessFlags:=2,nameIndex:=157,descriptorIndex:=109,attributes:=#[] },{ accessFlags:=2,nameIndex:=186,descriptorIndex:=109,attributes:=#[] },{ accessFlags:=2,nameIndex:=160,descriptorIndex:=109,attributes:=#[] },{ accessFlags:=2,nameIndex:=170,descriptorIndex:=140,attributes:=#[] },{ accessFlags:=2,nameIndex:=75,descriptorIndex:=12,attributes:=#[] },{ accessFlags:=2,nameIndex:=78,descriptorIndex:=12,attributes:=#[] },{ accessFlags:=2,nameIndex:=189,descriptorIndex:=109,attributes:=#[] },{ accessFlags:=2,nameIndex:=81,descriptorIndex:=12,attributes:=#[] },{ accessFlags:=2,nameIndex:=192,descriptorIndex:=109,attributes:=#[] },{ accessFlags:=2,nameIndex:=84,descriptorIndex:=12,attributes:=#[] },{ accessFlags:=2,nameIndex:=304,descriptorIndex:=109,attributes:=#[] },{ accessFlags:=2,nameIndex:=261,descriptorIndex:=109,attributes:=#[] },{ accessFlags:=2,nameIndex:=108,descriptorIndex:=109,attributes:=#[] },{ accessFlags:=2,nameIndex:=112,descriptorIndex:=109,attributes:=#[] },{ accessFlags:=2,nameIndex:=87,descriptorIndex:=12,attributes:=#[] },{ accessFlags:=2,nameIndex:=90,descriptorIndex:=12,attributes:=#[] },{ accessFlags:=2,nameIndex:=93,descriptorIndex:=12,attributes:=#[] },{ accessFlags:=2,nameIndex:=96,descriptorIndex:=12,attributes:=#[] },{ accessFlags:=2,nameIndex:=99,descriptorIndex:=12,attributes:=#[] },{ accessFlags:=2,nameIndex:=102,descriptorIndex:=12,attributes:=#[] },{ accessFlags:=2,nameIndex:=292,descriptorIndex:=109,attributes:=#[] },{ accessFlags:=2,nameIndex:=289,descriptorIndex:=109,attributes:=#[] },{ accessFlags:=2,nameIndex:=298,descriptorIndex:=109,attributes:=#[] },{ accessFlags:=2,nameIndex:=271,descriptorIndex:=109,attributes:=#[] },{ accessFlags:=2,nameIndex:=274,descriptorIndex:=109,attributes:=#[] },{ accessFlags:=2,nameIndex:=277,descriptorIndex:=109,attributes:=#[] },{ accessFlags:=2,nameIndex:=280,descriptorIndex:=109,attributes:=#[] },{ accessFlags:=2,nameIndex:=283,descriptorIndex:=109,attributes:=#[] },{ accessFlags:=2,nameIndex:=286,descriptorIndex:=109,attributes:=#[] },{ accessFlags:=2,nameIndex:=105,descriptorIndex:=12,attributes:=#[] }])
  fields:=#[{ name := "I_HALT", type:=.int,accessFlags:=25,slot:=0,constantValue:=0 },{ name := "I_SET", type:=.int,accessFlags:=25,slot:=1,constantValue:=0 },{ name := "I_ADD", type:=.int,accessFlags:=25,slot:=2,constantValue:=0 },{ name := "I_SUB", type:=.int,accessFlags:=25,slot:=3,constantValue:=0 },{ name := "I_ADDI", type:=.int,accessFlags:=25,slot:=4,constantValue:=0 },{ name := "I_LOAD", type:=.int,accessFlags:=25,slot:=5,constantValue:=0 },{ name := "I_STORE", type:=.int,accessFlags:=25,slot:=6,constantValue:=0 },{ name := "I_JNZ", type:=.int,accessFlags:=25,slot:=7,constantValue:=0 },{ name := "T_NUM", type:=.int,accessFlags:=25,slot:=8,constantValue:=0 },{ name := "T_REG", type:=.int,accessFlags:=25,slot:=9,constantValue:=0 },{ name := "T_LP", type:=.int,accessFlags:=25,slot:=10,constantValue:=0 },{ name := "T_RP", type:=.int,accessFlags:=25,slot:=11,constantValue:=0 },{ name := "T_SEMI", type:=.int,accessFlags:=25,slot:=12,constantValue:=0 },{ name := "T_NEG", type:=.int,accessFlags:=25,slot:=13,constantValue:=0 },{ name := "T_NOT", type:=.int,accessFlags:=25,slot:=14,constantValue:=0 },{ name := "T_AT", type:=.int,accessFlags:=25,slot:=15,constantValue:=0 },{ name := "T_MUL", type:=.int,accessFlags:=25,slot:=16,constantValue:=0 },{ name := "T_DIV", type:=.int,accessFlags:=25,slot:=17,constantValue:=0 },{ name := "T_MOD", type:=.int,accessFlags:=25,slot:=18,constantValue:=0 },{ name := "T_PLUS", type:=.int,accessFlags:=25,slot:=19,constantValue:=0 },{ name := "T_MINUS", type:=.int,accessFlags:=25,slot:=20,constantValue:=0 },{ name := "T_LT", type:=.int,accessFlags:=25,slot:=21,constantValue:=0 },{ name := "T_LE", type:=.int,accessFlags:=25,slot:=22,constantValue:=0 },{ name := "T_GT", type:=.int,accessFlags:=25,slot:=23,constantValue:=0 },{ name := "T_GE", type:=.int,accessFlags:=25,slot:=24,constantValue:=0 },{ name := "T_EQ", type:=.int,accessFlags:=25,slot:=25,constantValue:=0 },{ name := "T_NE", type:=.int,accessFlags:=25,slot:=26,constantValue:=0 },{ name := "T_AND", type:=.int,accessFlags:=25,slot:=27,constantValue:=0 },{ name := "T_OR", type:=.int,accessFlags:=25,slot:=28,constantValue:=0 },{ name := "C_OK", type:=.int,accessFlags:=25,slot:=29,constantValue:=0 },{ name := "C_SYNTAX", type:=.int,accessFlags:=25,slot:=30,constantValue:=0 },{ name := "C_TOO_MANY", type:=.int,accessFlags:=25,slot:=31,constantValue:=0 },{ name := "C_TOO_DEEP", type:=.int,accessFlags:=25,slot:=32,constantValue:=0 },{ name := "C_BAD_SLOT", type:=.int,accessFlags:=25,slot:=33,constantValue:=0 },{ name := "EVAL_OK", type:=.int,accessFlags:=25,slot:=34,constantValue:=0 },{ name := "EVAL_DIV0", type:=.int,accessFlags:=25,slot:=35,constantValue:=0 },{ name := "EVAL_MEM", type:=.int,accessFlags:=25,slot:=36,constantValue:=0 },{ name := "EVAL_REFUSED", type:=.int,accessFlags:=25,slot:=37,constantValue:=0 },{ name := "MODE_STOP", type:=.int,accessFlags:=25,slot:=38,constantValue:=0 },{ name := "MODE_TRACE", type:=.int,accessFlags:=25,slot:=39,constantValue:=0 },{ name := "POLICY_RING", type:=.int,accessFlags:=25,slot:=40,constantValue:=0 },{ name := "POLICY_HALT", type:=.int,accessFlags:=25,slot:=41,constantValue:=0 },{ name := "STOP_REFUSED", type:=.int,accessFlags:=25,slot:=42,constantValue:=0 },{ name := "STOP_STEPS", type:=.int,accessFlags:=25,slot:=43,constantValue:=0 },{ name := "STOP_HALT", type:=.int,accessFlags:=25,slot:=44,constantValue:=0 },{ name := "STOP_BREAK", type:=.int,accessFlags:=25,slot:=45,constantValue:=0 },{ name := "STOP_FULL", type:=.int,accessFlags:=25,slot:=46,constantValue:=0 },{ name := "STOP_AGENT_ERROR", type:=.int,accessFlags:=25,slot:=47,constantValue:=0 },{ name := "REG_PC", type:=.int,accessFlags:=25,slot:=48,constantValue:=0 },{ name := "INFO_HALTED", type:=.int,accessFlags:=25,slot:=49,constantValue:=0 },{ name := "INFO_SKIP", type:=.int,accessFlags:=25,slot:=50,constantValue:=0 },{ name := "INFO_STEPS", type:=.int,accessFlags:=25,slot:=51,constantValue:=0 },{ name := "INFO_LAST_STOP", type:=.int,accessFlags:=25,slot:=52,constantValue:=0 },{ name := "INFO_AGENT_ERROR", type:=.int,accessFlags:=25,slot:=53,constantValue:=0 },{ name := "INFO_HOST_ERROR", type:=.int,accessFlags:=25,slot:=54,constantValue:=0 },{ name := "INFO_FRAMES", type:=.int,accessFlags:=25,slot:=55,constantValue:=0 },{ name := "INFO_DROPPED", type:=.int,accessFlags:=25,slot:=56,constantValue:=0 },{ name := "INFO_TOKENS", type:=.int,accessFlags:=25,slot:=57,constantValue:=0 },{ name := "INFO_CAPACITY", type:=.int,accessFlags:=25,slot:=58,constantValue:=0 },{ name := "INFO_POLICY", type:=.int,accessFlags:=25,slot:=59,constantValue:=0 },{ name := "INFO_SEQ", type:=.int,accessFlags:=25,slot:=60,constantValue:=0 },{ name := "S_STATE", type:=.int,accessFlags:=25,slot:=61,constantValue:=0 },{ name := "S_ADDR", type:=.int,accessFlags:=25,slot:=62,constantValue:=0 },{ name := "S_MODE", type:=.int,accessFlags:=25,slot:=63,constantValue:=0 },{ name := "S_HITS", type:=.int,accessFlags:=25,slot:=64,constantValue:=0 },{ name := "S_EXPRS", type:=.int,accessFlags:=25,slot:=65,constantValue:=0 },{ name := "SLOT_EMPTY", type:=.int,accessFlags:=25,slot:=66,constantValue:=0 },{ name := "SLOT_COMPILED", type:=.int,accessFlags:=25,slot:=67,constantValue:=0 },{ name := "SLOT_INSTALLED", type:=.int,accessFlags:=25,slot:=68,constantValue:=0 },{ name := "F_ADDR", type:=.int,accessFlags:=25,slot:=69,constantValue:=0 },{ name := "F_SLOT", type:=.int,accessFlags:=25,slot:=70,constantValue:=0 },{ name := "F_COUNT", type:=.int,accessFlags:=25,slot:=71,constantValue:=0 },{ name := "F_MASK", type:=.int,accessFlags:=25,slot:=72,constantValue:=0 },{ name := "F_VAL0", type:=.int,accessFlags:=25,slot:=73,constantValue:=0 },{ name := "F_VAL1", type:=.int,accessFlags:=25,slot:=74,constantValue:=0 },{ name := "F_VAL2", type:=.int,accessFlags:=25,slot:=75,constantValue:=0 },{ name := "F_SEQ", type:=.int,accessFlags:=25,slot:=76,constantValue:=0 },{ name := "MAX_TOKENS", type:=.int,accessFlags:=25,slot:=77,constantValue:=0 },{ name := "MAX_EXPRS", type:=.int,accessFlags:=25,slot:=78,constantValue:=0 },{ name := "MAX_NEED", type:=.int,accessFlags:=25,slot:=79,constantValue:=0 },{ name := "MAX_STEPS", type:=.int,accessFlags:=25,slot:=80,constantValue:=0 },{ name := "reg", type:=(.array .int),accessFlags:=2,slot:=0,constantValue:=0 },{ name := "mem", type:=(.array .int),accessFlags:=2,slot:=1,constantValue:=0 },{ name := "progOp", type:=(.array .int),accessFlags:=2,slot:=2,constantValue:=0 },{ name := "progA", type:=(.array .int),accessFlags:=2,slot:=3,constantValue:=0 },{ name := "progB", type:=(.array .int),accessFlags:=2,slot:=4,constantValue:=0 },{ name := "pc", type:=.int,accessFlags:=2,slot:=5,constantValue:=0 },{ name := "halted", type:=.boolean,accessFlags:=2,slot:=6,constantValue:=0 },{ name := "skip", type:=.boolean,accessFlags:=2,slot:=7,constantValue:=0 },{ name := "stepsDone", type:=.int,accessFlags:=2,slot:=8,constantValue:=0 },{ name := "lastStop", type:=.int,accessFlags:=2,slot:=9,constantValue:=0 },{ name := "agentErr", type:=.int,accessFlags:=2,slot:=10,constantValue:=0 },{ name := "hostErr", type:=.int,accessFlags:=2,slot:=11,constantValue:=0 },{ name := "tokKind", type:=(.array .int),accessFlags:=2,slot:=12,constantValue:=0 },{ name := "tokVal", type:=(.array .int),accessFlags:=2,slot:=13,constantValue:=0 },{ name := "tokCount", type:=.int,accessFlags:=2,slot:=14,constantValue:=0 },{ name := "slotState", type:=(.array .int),accessFlags:=2,slot:=15,constantValue:=0 },{ name := "slotAddr", type:=(.array .int),accessFlags:=2,slot:=16,constantValue:=0 },{ name := "slotMode", type:=(.array .int),accessFlags:=2,slot:=17,constantValue:=0 },{ name := "slotHits", type:=(.array .int),accessFlags:=2,slot:=18,constantValue:=0 },{ name := "slotExprs", type:=(.array .int),accessFlags:=2,slot:=19,constantValue:=0 },{ name := "slotLen", type:=(.array .int),accessFlags:=2,slot:=20,constantValue:=0 },{ name := "codeOp", type:=(.array .int),accessFlags:=2,slot:=21,constantValue:=0 },{ name := "codeArg", type:=(.array .int),accessFlags:=2,slot:=22,constantValue:=0 },{ name := "exprStart", type:=(.array .int),accessFlags:=2,slot:=23,constantValue:=0 },{ name := "exprEnd", type:=(.array .int),accessFlags:=2,slot:=24,constantValue:=0 },{ name := "sOp", type:=(.array .int),accessFlags:=2,slot:=25,constantValue:=0 },{ name := "sArg", type:=(.array .int),accessFlags:=2,slot:=26,constantValue:=0 },{ name := "sLen", type:=.int,accessFlags:=2,slot:=27,constantValue:=0 },{ name := "sStart", type:=(.array .int),accessFlags:=2,slot:=28,constantValue:=0 },{ name := "sEnd", type:=(.array .int),accessFlags:=2,slot:=29,constantValue:=0 },{ name := "sExprs", type:=.int,accessFlags:=2,slot:=30,constantValue:=0 },{ name := "sCurStart", type:=.int,accessFlags:=2,slot:=31,constantValue:=0 },{ name := "sMaxNeed", type:=.int,accessFlags:=2,slot:=32,constantValue:=0 },{ name := "sExpectOperand", type:=.boolean,accessFlags:=2,slot:=33,constantValue:=0 },{ name := "opKind", type:=(.array .int),accessFlags:=2,slot:=34,constantValue:=0 },{ name := "opAux", type:=(.array .int),accessFlags:=2,slot:=35,constantValue:=0 },{ name := "opTop", type:=.int,accessFlags:=2,slot:=36,constantValue:=0 },{ name := "needStk", type:=(.array .int),accessFlags:=2,slot:=37,constantValue:=0 },{ name := "needTop", type:=.int,accessFlags:=2,slot:=38,constantValue:=0 },{ name := "evStk", type:=(.array .int),accessFlags:=2,slot:=39,constantValue:=0 },{ name := "evSp", type:=.int,accessFlags:=2,slot:=40,constantValue:=0 },{ name := "evErr", type:=.int,accessFlags:=2,slot:=41,constantValue:=0 },{ name := "capacity", type:=.int,accessFlags:=2,slot:=42,constantValue:=0 },{ name := "policy", type:=.int,accessFlags:=2,slot:=43,constantValue:=0 },{ name := "frAddr", type:=(.array .int),accessFlags:=2,slot:=44,constantValue:=0 },{ name := "frSlot", type:=(.array .int),accessFlags:=2,slot:=45,constantValue:=0 },{ name := "frCnt", type:=(.array .int),accessFlags:=2,slot:=46,constantValue:=0 },{ name := "frMask", type:=(.array .int),accessFlags:=2,slot:=47,constantValue:=0 },{ name := "frSeq", type:=(.array .int),accessFlags:=2,slot:=48,constantValue:=0 },{ name := "frVal", type:=(.array .int),accessFlags:=2,slot:=49,constantValue:=0 },{ name := "frHead", type:=.int,accessFlags:=2,slot:=50,constantValue:=0 },{ name := "frHeld", type:=.int,accessFlags:=2,slot:=51,constantValue:=0 },{ name := "dropped", type:=.int,accessFlags:=2,slot:=52,constantValue:=0 },{ name := "frameSeq", type:=.int,accessFlags:=2,slot:=53,constantValue:=0 },{ name := "pendAddr", type:=.int,accessFlags:=2,slot:=54,constantValue:=0 },{ name := "pendSlot", type:=.int,accessFlags:=2,slot:=55,constantValue:=0 },{ name := "pendCount", type:=.int,accessFlags:=2,slot:=56,constantValue:=0 },{ name := "pendMask", type:=.int,accessFlags:=2,slot:=57,constantValue:=0 },{ name := "pendSeq", type:=.int,accessFlags:=2,slot:=58,constantValue:=0 },{ name := "pendVal", type:=(.array .int),accessFlags:=2,slot:=59,constantValue:=0 }]
  methods:=#[k2m0,k2m1,k2m2,k2m3,k2m4,k2m5,k2m6,k2m7,k2m8,k2m9,k2m10,k2m11,k2m12,k2m13,k2m14,k2m15,k2m16,k2m17,k2m18,k2m19,k2m20,k2m21,k2m22,k2m23,k2m24,k2m25,k2m26,k2m27,k2m28,k2m29,k2m30,k2m31,k2m32,k2m33,k2m34,k2m35,k2m36,k2m37,k2m38,k2m39,k2m40,k2m41,k2m42,k2m43,k2m44,k2m45,k2m46,k2m47,k2m48,k2m49,k2m50,k2m51,k2m52,k2m53,k2m54,k2m55,k2m56,k2m57,k2m58,k2m59,k2m60,k2m61,k2m62,k2m63,k2m64]
  instanceTypes:=#[(.array .int),(.array .int),(.array .int),(.array .int),(.array .int),.int,.boolean,.boolean,.int,.int,.int,.int,(.array .int),(.array .int),.int,(.array .int),(.array .int),(.array .int),(.array .int),(.array .int),(.array .int),(.array .int),(.array .int),(.array .int),(.array .int),(.array .int),(.array .int),.int,(.array .int),(.array .int),.int,.int,.int,.boolean,(.array .int),(.array .int),.int,(.array .int),.int,(.array .int),.int,.int,.int,.int,(.array .int),(.array .int),(.array .int),(.array .int),(.array .int),(.array .int),.int,.int,.int,.int,.int,.int,.int,.int,.int,(.array .int)]
  staticTypes:=#[.int,.int,.int,.int,.int,.int,.int,.int,.int,.int,.int,.int,.int,.int,.int,.int,.int,.int,.int,.int,.int,.int,.int,.int,.int,.int,.int,.int,.int,.int,.int,.int,.int,.int,.int,.int,.int,.int,.int,.int,.int,.int,.int,.int,.int,.int,.int,.int,.int,.int,.int,.int,.int,.int,.int,.int,.int,.int,.int,.int,.int,.int,.int,.int,.int,.int,.int,.int,.int,.int,.int,.int,.int,.int,.int,.int,.int,.int,.int,.int,.int]
  resolved:=Array.replicate 479 none
  statics:=none }
def pool3:Array CpInfo:=pool [(1,u "java/lang/Cloneable"),(0,.class_ 1),(0,u "java/lang/Object"),(0,.class_ 3)] 3
/-- java/lang/Cloneable -/
def k3:Class:={ plain "java/lang/Cloneable" (some 0) with
  accessFlags:=1537
  interfaces:=#[]
  cf:=some (fileOf pool3 2 #[] #[] 1537 4 #[] #[])
  fields:=#[]
  methods:=#[]
  instanceTypes:=#[]
  staticTypes:=#[]
  resolved:=Array.replicate 8 none
  statics:=none }
def pool4:Array CpInfo:=pool [(1,u "java/io/Serializable"),(0,.class_ 1),(0,u "java/lang/Object"),(0,.class_ 3)] 3
/-- java/io/Serializable -/
def k4:Class:={ plain "java/io/Serializable" (some 0) with
  accessFlags:=1537
  interfaces:=#[]
  cf:=some (fileOf pool4 2 #[] #[] 1537 4 #[] #[])
  fields:=#[]
  methods:=#[]
  instanceTypes:=#[]
  staticTypes:=#[]
  resolved:=Array.replicate 8 none
  statics:=none }
/-- the primitive byte -/
def k5:Class:={ plain "byte" none with kind:=.primitive 'B',accessFlags:=0x411 }
/-- [B -/
def k6:Class:={ plain "[B" (some 0) with kind:=.array 5 .byte,interfaces:=#[3,4],accessFlags:=1041 }
/-- the primitive int -/
def k7:Class:={ plain "int" none with kind:=.primitive 'I',accessFlags:=0x411 }
/-- [I -/
def k8:Class:={ plain "[I" (some 0) with kind:=.array 7 .int,interfaces:=#[3,4],accessFlags:=1041 }
def heap:Heap:=#[{ cls:=8,slots:=#[.int 0,.int 1],vm:=.none }]
def classes:Array Class:=#[k0,k1,k2,k3,k4,k5,k6,k7,k8]
def interned:List (Array UInt16 × Addr):=[]
def slotsUsed:Nat:=2
def theMethod:MethodId:=⟨1,3⟩
def args0:Array Value:=#[.ref 0]
def aboutOver (below:List Frame):State where
  vm:={ classes:=classes,interned:=interned.toArray }
  heap:=heap
  slotsUsed:=slotsUsed
  threads:=#[{ frames:=.invoking theMethod args0::below }]
def below0:List Frame:=[.native { method:=⟨0,0⟩,args:=#[] }]
def about1:State:=aboutOver below0
def p0:Program:=.bare "" "" ""
def e0:Env:=launch0.env 0 0 0
theorem w_frames:about1.frames=Frame.invoking theMethod args0::below0:=rfl
theorem w_args:argsFit about1.vm theMethod args0=true:=by decide +kernel
theorem w_heap:heapFits about1=true:=by decide +kernel
theorem w_runnable:about1.curStatus?=some .runnable:=by decide +kernel
theorem w_alone:about1.alone=true:=by decide +kernel
theorem w_named:about1.methodNamed? x=some theMethod:=by decide +kernel
theorem w_hears:about1.hears theMethod below0=true:=by decide +kernel
theorem w_ripe:about1.ripe theMethod args0 below0=true:=by decide +kernel
theorem w_running:about1.status=.running:=rfl
theorem w_room:about1.hasRoom e0.platform room_1=true :=
  launch0.hasRoom_least _ room_1 (by decide +kernel) (by decide +kernel) (by decide +kernel) (by decide +kernel) (by decide +kernel) (by decide +kernel)
theorem allAtoms_all (ts:List Jvm.Cond) (a:Array Jvm.Value) (st:Jvm.State):(allAtoms ts).before a st=ts.all (fun c => c.before a st):=by
  induction ts with
  | nil => rfl
  | cons c t ih =>
    show (Jvm.Cond.and c (allAtoms t)).before a st=_
    rw [Jvm.Cond.before_and,ih,List.all_cons]
def words1:List Jvm.Cond:=Jvm.Cond.code x code maxLocals ret::tables_1
/-- a 'code' word, met by the world's own term for the bytes: nothing is compared byte by byte -/
theorem code_word {y:MethodName}{bytes:ByteArray}{mx:Nat}{rt:Option FieldType}{a:Array Value}{s:State}{m:MethodId}{meth:Method}{c:Code} (h1:s.methodNamed? y=some m) (h2:s.vm.method? m=some meth) (h3:meth.code=some c) (h4:c.code=bytes)
    (h5:(c.maxLocals == mx && c.exceptionTable.isEmpty && decide (c.maxStack≤mostOperands) && decide (meth.sig.returnType=rt) && !meth.locks && decide (parseMethodDescriptor y.desc=some meth.sig))=true):(Jvm.Cond.code y bytes mx rt).before a s=true:=by
  simp only [Bool.and_eq_true,beq_iff_eq,Bool.not_eq_true',decide_eq_true_eq] at h5
  obtain ⟨⟨⟨⟨⟨g1,g2⟩,g3⟩,g4⟩,g5⟩,g6⟩:=h5
  simp [Cond.before,Cond.holds,Cond.value,h1,h2,h3,h4,g1,g2,g3,g4,g5,g6]
def isCode:Jvm.Cond→Bool
  | .code _ _ _ _ => true
  | _ => false
theorem all_split {L:List Jvm.Cond}{P:Jvm.Cond→Bool} (h1:L.all (fun c => isCode c || P c)=true) (h2:∀ c ∈ L.filter isCode,P c=true):L.all P=true:=by
  refine List.all_eq_true.mpr fun c hc => ?_
  have h:=List.all_eq_true.mp h1 c hc
  rcases Bool.eq_false_or_eq_true (isCode c) with hi | hi
  · exact h2 c (List.mem_filter.mpr ⟨hc,hi⟩)
  · simpa [hi] using h
theorem w_c0:(Jvm.Cond.code x code maxLocals ret).before args0 about1=true:=code_word (m:=⟨1,3⟩) (meth:=k1m3) (c:=k1c3) (by decide +kernel) rfl rfl rfl (by decide +kernel)
theorem w_c1:(Jvm.Cond.code ({ cls := "AgentExprDbgOwnLaw", name := "cell", desc := "([II)I" }:Jvm.MethodName) method_2_code (2:Nat) (Option.some Jvm.ClassFile.FieldType.int)).before args0 about1=true:=code_word (m:=⟨1,1⟩) (meth:=k1m1) (c:=k1c1) (by decide +kernel) rfl rfl rfl (by decide +kernel)
theorem w_c2:(Jvm.Cond.code ({ cls := "AgentExprDbg", name := "<init>", desc := "(II)V" }:Jvm.MethodName) prog_1_method_1_code (5:Nat) (Option.none:Option Jvm.ClassFile.FieldType)).before args0 about1=true:=code_word (m:=⟨2,0⟩) (meth:=k2m0) (c:=k2c0) (by decide +kernel) rfl rfl rfl (by decide +kernel)
theorem w_c3:(Jvm.Cond.code ({ cls := "java/lang/Object", name := "<init>", desc := "()V" }:Jvm.MethodName) object_method_1_code (1:Nat) (Option.none:Option Jvm.ClassFile.FieldType)).before args0 about1=true:=code_word (m:=⟨0,0⟩) (meth:=k0m0) (c:=k0c0) (by decide +kernel) rfl rfl rfl (by decide +kernel)
theorem w_c4:(Jvm.Cond.code ({ cls := "AgentExprDbgOwnLaw", name := "mod", desc := "(II)I" }:Jvm.MethodName) method_3_code (3:Nat) (Option.some Jvm.ClassFile.FieldType.int)).before args0 about1=true:=code_word (m:=⟨1,2⟩) (meth:=k1m2) (c:=k1c2) (by decide +kernel) rfl rfl rfl (by decide +kernel)
theorem w_c5:(Jvm.Cond.code ({ cls := "AgentExprDbg", name := "setReg", desc := "(II)Z" }:Jvm.MethodName) prog_1_method_5_code (3:Nat) (Option.some Jvm.ClassFile.FieldType.boolean)).before args0 about1=true:=code_word (m:=⟨2,4⟩) (meth:=k2m4) (c:=k2c4) (by decide +kernel) rfl rfl rfl (by decide +kernel)
theorem w_c6:(Jvm.Cond.code ({ cls := "AgentExprDbg", name := "inRange", desc := "(III)Z" }:Jvm.MethodName) prog_1_method_64_code (4:Nat) (Option.some Jvm.ClassFile.FieldType.boolean)).before args0 about1=true:=code_word (m:=⟨2,63⟩) (meth:=k2m63) (c:=k2c63) (by decide +kernel) rfl rfl rfl (by decide +kernel)
theorem w_c7:(Jvm.Cond.code ({ cls := "AgentExprDbg", name := "setInstr", desc := "(IIII)Z" }:Jvm.MethodName) prog_1_method_2_code (5:Nat) (Option.some Jvm.ClassFile.FieldType.boolean)).before args0 about1=true:=code_word (m:=⟨2,1⟩) (meth:=k2m1) (c:=k2c1) (by decide +kernel) rfl rfl rfl (by decide +kernel)
theorem w_c8:(Jvm.Cond.code ({ cls := "AgentExprDbg", name := "validInstr", desc := "(IIII)Z" }:Jvm.MethodName) prog_1_method_3_code (5:Nat) (Option.some Jvm.ClassFile.FieldType.boolean)).before args0 about1=true:=code_word (m:=⟨2,2⟩) (meth:=k2m2) (c:=k2c2) (by decide +kernel) rfl rfl rfl (by decide +kernel)
theorem w_c9:(Jvm.Cond.code ({ cls := "AgentExprDbg", name := "validSecond", desc := "(II)Z" }:Jvm.MethodName) prog_1_method_4_code (3:Nat) (Option.some Jvm.ClassFile.FieldType.boolean)).before args0 about1=true:=code_word (m:=⟨2,3⟩) (meth:=k2m3) (c:=k2c3) (by decide +kernel) rfl rfl rfl (by decide +kernel)
theorem w_c10:(Jvm.Cond.code ({ cls := "AgentExprDbg", name := "install", desc := "(III)Z" }:Jvm.MethodName) prog_1_method_31_code (5:Nat) (Option.some Jvm.ClassFile.FieldType.boolean)).before args0 about1=true:=code_word (m:=⟨2,30⟩) (meth:=k2m30) (c:=k2c30) (by decide +kernel) rfl rfl rfl (by decide +kernel)
theorem w_c11:(Jvm.Cond.code ({ cls := "AgentExprDbg", name := "addToken", desc := "(II)Z" }:Jvm.MethodName) prog_1_method_9_code (3:Nat) (Option.some Jvm.ClassFile.FieldType.boolean)).before args0 about1=true:=code_word (m:=⟨2,8⟩) (meth:=k2m8) (c:=k2c8) (by decide +kernel) rfl rfl rfl (by decide +kernel)
theorem w_c12:(Jvm.Cond.code ({ cls := "AgentExprDbg", name := "compile", desc := "(I)I" }:Jvm.MethodName) prog_1_method_10_code (3:Nat) (Option.some Jvm.ClassFile.FieldType.int)).before args0 about1=true:=code_word (m:=⟨2,9⟩) (meth:=k2m9) (c:=k2c9) (by decide +kernel) rfl rfl rfl (by decide +kernel)
theorem w_c13:(Jvm.Cond.code ({ cls := "AgentExprDbg", name := "compileChecked", desc := "(I)I" }:Jvm.MethodName) prog_1_method_11_code (2:Nat) (Option.some Jvm.ClassFile.FieldType.int)).before args0 about1=true:=code_word (m:=⟨2,10⟩) (meth:=k2m10) (c:=k2c10) (by decide +kernel) rfl rfl rfl (by decide +kernel)
theorem w_c14:(Jvm.Cond.code ({ cls := "AgentExprDbg", name := "parseAll", desc := "()Z" }:Jvm.MethodName) prog_1_method_12_code (5:Nat) (Option.some Jvm.ClassFile.FieldType.boolean)).before args0 about1=true:=code_word (m:=⟨2,11⟩) (meth:=k2m11) (c:=k2c11) (by decide +kernel) rfl rfl rfl (by decide +kernel)
theorem w_c15:(Jvm.Cond.code ({ cls := "AgentExprDbg", name := "resetScratch", desc := "()V" }:Jvm.MethodName) prog_1_method_13_code (1:Nat) (Option.none:Option Jvm.ClassFile.FieldType)).before args0 about1=true:=code_word (m:=⟨2,12⟩) (meth:=k2m12) (c:=k2c12) (by decide +kernel) rfl rfl rfl (by decide +kernel)
theorem w_c16:(Jvm.Cond.code ({ cls := "AgentExprDbg", name := "parseOperand", desc := "(II)Z" }:Jvm.MethodName) prog_1_method_14_code (3:Nat) (Option.some Jvm.ClassFile.FieldType.boolean)).before args0 about1=true:=code_word (m:=⟨2,13⟩) (meth:=k2m13) (c:=k2c13) (by decide +kernel) rfl rfl rfl (by decide +kernel)
theorem w_c17:(Jvm.Cond.code ({ cls := "AgentExprDbg", name := "pushNeed", desc := "(I)Z" }:Jvm.MethodName) prog_1_method_24_code (2:Nat) (Option.some Jvm.ClassFile.FieldType.boolean)).before args0 about1=true:=code_word (m:=⟨2,23⟩) (meth:=k2m23) (c:=k2c23) (by decide +kernel) rfl rfl rfl (by decide +kernel)
theorem w_c18:(Jvm.Cond.code ({ cls := "AgentExprDbg", name := "emit", desc := "(II)Z" }:Jvm.MethodName) prog_1_method_26_code (3:Nat) (Option.some Jvm.ClassFile.FieldType.boolean)).before args0 about1=true:=code_word (m:=⟨2,25⟩) (meth:=k2m25) (c:=k2c25) (by decide +kernel) rfl rfl rfl (by decide +kernel)
theorem w_c19:(Jvm.Cond.code ({ cls := "AgentExprDbg", name := "finishSource", desc := "()Z" }:Jvm.MethodName) prog_1_method_22_code (1:Nat) (Option.some Jvm.ClassFile.FieldType.boolean)).before args0 about1=true:=code_word (m:=⟨2,21⟩) (meth:=k2m21) (c:=k2c21) (by decide +kernel) rfl rfl rfl (by decide +kernel)
theorem w_c20:(Jvm.Cond.code ({ cls := "AgentExprDbg", name := "reduceWhile", desc := "(I)Z" }:Jvm.MethodName) prog_1_method_17_code (4:Nat) (Option.some Jvm.ClassFile.FieldType.boolean)).before args0 about1=true:=code_word (m:=⟨2,16⟩) (meth:=k2m16) (c:=k2c16) (by decide +kernel) rfl rfl rfl (by decide +kernel)
theorem w_c21:(Jvm.Cond.code ({ cls := "AgentExprDbg", name := "closeExpr", desc := "()Z" }:Jvm.MethodName) prog_1_method_21_code (2:Nat) (Option.some Jvm.ClassFile.FieldType.boolean)).before args0 about1=true:=code_word (m:=⟨2,20⟩) (meth:=k2m20) (c:=k2c20) (by decide +kernel) rfl rfl rfl (by decide +kernel)
theorem w_c22:(Jvm.Cond.code ({ cls := "AgentExprDbg", name := "storeAgent", desc := "(I)V" }:Jvm.MethodName) prog_1_method_30_code (5:Nat) (Option.none:Option Jvm.ClassFile.FieldType)).before args0 about1=true:=code_word (m:=⟨2,29⟩) (meth:=k2m29) (c:=k2c29) (by decide +kernel) rfl rfl rfl (by decide +kernel)
theorem w_c23:(Jvm.Cond.code ({ cls := "AgentExprDbg", name := "parseOperator", desc := "(I)Z" }:Jvm.MethodName) prog_1_method_15_code (2:Nat) (Option.some Jvm.ClassFile.FieldType.boolean)).before args0 about1=true:=code_word (m:=⟨2,14⟩) (meth:=k2m14) (c:=k2c14) (by decide +kernel) rfl rfl rfl (by decide +kernel)
theorem w_c24:(Jvm.Cond.code ({ cls := "AgentExprDbg", name := "isBinary", desc := "(I)Z" }:Jvm.MethodName) prog_1_method_29_code (2:Nat) (Option.some Jvm.ClassFile.FieldType.boolean)).before args0 about1=true:=code_word (m:=⟨2,28⟩) (meth:=k2m28) (c:=k2c28) (by decide +kernel) rfl rfl rfl (by decide +kernel)
theorem w_c25:(Jvm.Cond.code ({ cls := "AgentExprDbg", name := "binaryOperator", desc := "(I)Z" }:Jvm.MethodName) prog_1_method_16_code (4:Nat) (Option.some Jvm.ClassFile.FieldType.boolean)).before args0 about1=true:=code_word (m:=⟨2,15⟩) (meth:=k2m15) (c:=k2c15) (by decide +kernel) rfl rfl rfl (by decide +kernel)
theorem w_c26:(Jvm.Cond.code ({ cls := "AgentExprDbg", name := "precedence", desc := "(I)I" }:Jvm.MethodName) prog_1_method_27_code (2:Nat) (Option.some Jvm.ClassFile.FieldType.int)).before args0 about1=true:=code_word (m:=⟨2,26⟩) (meth:=k2m26) (c:=k2c26) (by decide +kernel) rfl rfl rfl (by decide +kernel)
theorem w_c27:(Jvm.Cond.code ({ cls := "AgentExprDbg", name := "pushOp", desc := "(II)Z" }:Jvm.MethodName) prog_1_method_25_code (3:Nat) (Option.some Jvm.ClassFile.FieldType.boolean)).before args0 about1=true:=code_word (m:=⟨2,24⟩) (meth:=k2m24) (c:=k2c24) (by decide +kernel) rfl rfl rfl (by decide +kernel)
theorem w_c28:(Jvm.Cond.code ({ cls := "AgentExprDbg", name := "isUnary", desc := "(I)Z" }:Jvm.MethodName) prog_1_method_28_code (2:Nat) (Option.some Jvm.ClassFile.FieldType.boolean)).before args0 about1=true:=code_word (m:=⟨2,27⟩) (meth:=k2m27) (c:=k2c27) (by decide +kernel) rfl rfl rfl (by decide +kernel)
theorem w_c29:(Jvm.Cond.code ({ cls := "AgentExprDbg", name := "reduceOne", desc := "(II)Z" }:Jvm.MethodName) prog_1_method_18_code (3:Nat) (Option.some Jvm.ClassFile.FieldType.boolean)).before args0 about1=true:=code_word (m:=⟨2,17⟩) (meth:=k2m17) (c:=k2c17) (by decide +kernel) rfl rfl rfl (by decide +kernel)
theorem w_c30:(Jvm.Cond.code ({ cls := "AgentExprDbg", name := "combineNeed", desc := "()Z" }:Jvm.MethodName) prog_1_method_23_code (4:Nat) (Option.some Jvm.ClassFile.FieldType.boolean)).before args0 about1=true:=code_word (m:=⟨2,22⟩) (meth:=k2m22) (c:=k2c22) (by decide +kernel) rfl rfl rfl (by decide +kernel)
theorem w_c31:(Jvm.Cond.code ({ cls := "AgentExprDbg", name := "setMem", desc := "(II)Z" }:Jvm.MethodName) prog_1_method_6_code (3:Nat) (Option.some Jvm.ClassFile.FieldType.boolean)).before args0 about1=true:=code_word (m:=⟨2,5⟩) (meth:=k2m5) (c:=k2c5) (by decide +kernel) rfl rfl rfl (by decide +kernel)
theorem w_c32:(Jvm.Cond.code ({ cls := "AgentExprDbg", name := "slotAt", desc := "(I)I" }:Jvm.MethodName) prog_1_method_33_code (3:Nat) (Option.some Jvm.ClassFile.FieldType.int)).before args0 about1=true:=code_word (m:=⟨2,32⟩) (meth:=k2m32) (c:=k2c32) (by decide +kernel) rfl rfl rfl (by decide +kernel)
theorem w_c33:(Jvm.Cond.code ({ cls := "AgentExprDbg", name := "run", desc := "(I)I" }:Jvm.MethodName) prog_1_method_34_code (4:Nat) (Option.some Jvm.ClassFile.FieldType.int)).before args0 about1=true:=code_word (m:=⟨2,33⟩) (meth:=k2m33) (c:=k2c33) (by decide +kernel) rfl rfl rfl (by decide +kernel)
theorem w_c34:(Jvm.Cond.code ({ cls := "AgentExprDbg", name := "runLoop", desc := "(I)I" }:Jvm.MethodName) prog_1_method_35_code (4:Nat) (Option.some Jvm.ClassFile.FieldType.int)).before args0 about1=true:=code_word (m:=⟨2,34⟩) (meth:=k2m34) (c:=k2c34) (by decide +kernel) rfl rfl rfl (by decide +kernel)
theorem w_c35:(Jvm.Cond.code ({ cls := "AgentExprDbg", name := "oneStep", desc := "()I" }:Jvm.MethodName) prog_1_method_36_code (4:Nat) (Option.some Jvm.ClassFile.FieldType.int)).before args0 about1=true:=code_word (m:=⟨2,35⟩) (meth:=k2m35) (c:=k2c35) (by decide +kernel) rfl rfl rfl (by decide +kernel)
theorem w_c36:(Jvm.Cond.code ({ cls := "AgentExprDbg", name := "execute", desc := "(I)V" }:Jvm.MethodName) prog_1_method_37_code (6:Nat) (Option.none:Option Jvm.ClassFile.FieldType)).before args0 about1=true:=code_word (m:=⟨2,36⟩) (meth:=k2m36) (c:=k2c36) (by decide +kernel) rfl rfl rfl (by decide +kernel)
theorem w_c37:(Jvm.Cond.code ({ cls := "AgentExprDbg", name := "slotInfo", desc := "(II)I" }:Jvm.MethodName) prog_1_method_60_code (4:Nat) (Option.some Jvm.ClassFile.FieldType.int)).before args0 about1=true:=code_word (m:=⟨2,59⟩) (meth:=k2m59) (c:=k2c59) (by decide +kernel) rfl rfl rfl (by decide +kernel)
theorem w_c38:(Jvm.Cond.code ({ cls := "AgentExprDbg", name := "getReg", desc := "(I)I" }:Jvm.MethodName) prog_1_method_7_code (2:Nat) (Option.some Jvm.ClassFile.FieldType.int)).before args0 about1=true:=code_word (m:=⟨2,6⟩) (meth:=k2m6) (c:=k2c6) (by decide +kernel) rfl rfl rfl (by decide +kernel)
theorem w_c39:(Jvm.Cond.code ({ cls := "AgentExprDbg", name := "uninstall", desc := "(I)Z" }:Jvm.MethodName) prog_1_method_32_code (2:Nat) (Option.some Jvm.ClassFile.FieldType.boolean)).before args0 about1=true:=code_word (m:=⟨2,31⟩) (meth:=k2m31) (c:=k2c31) (by decide +kernel) rfl rfl rfl (by decide +kernel)
theorem w_c40:(Jvm.Cond.code ({ cls := "AgentExprDbg", name := "closeParen", desc := "()Z" }:Jvm.MethodName) prog_1_method_19_code (1:Nat) (Option.some Jvm.ClassFile.FieldType.boolean)).before args0 about1=true:=code_word (m:=⟨2,18⟩) (meth:=k2m18) (c:=k2c18) (by decide +kernel) rfl rfl rfl (by decide +kernel)
theorem w_c41:(Jvm.Cond.code ({ cls := "AgentExprDbg", name := "endOfExpr", desc := "()Z" }:Jvm.MethodName) prog_1_method_20_code (1:Nat) (Option.some Jvm.ClassFile.FieldType.boolean)).before args0 about1=true:=code_word (m:=⟨2,19⟩) (meth:=k2m19) (c:=k2c19) (by decide +kernel) rfl rfl rfl (by decide +kernel)
theorem w_c42:(Jvm.Cond.code ({ cls := "AgentExprDbg", name := "status", desc := "(I)I" }:Jvm.MethodName) prog_1_method_58_code (2:Nat) (Option.some Jvm.ClassFile.FieldType.int)).before args0 about1=true:=code_word (m:=⟨2,57⟩) (meth:=k2m57) (c:=k2c57) (by decide +kernel) rfl rfl rfl (by decide +kernel)
theorem w_c43:(Jvm.Cond.code ({ cls := "AgentExprDbg", name := "statusMore", desc := "(I)I" }:Jvm.MethodName) prog_1_method_59_code (2:Nat) (Option.some Jvm.ClassFile.FieldType.int)).before args0 about1=true:=code_word (m:=⟨2,58⟩) (meth:=k2m58) (c:=k2c58) (by decide +kernel) rfl rfl rfl (by decide +kernel)
theorem w_c44:(Jvm.Cond.code ({ cls := "AgentExprDbg", name := "hostEval", desc := "(II)I" }:Jvm.MethodName) prog_1_method_43_code (4:Nat) (Option.some Jvm.ClassFile.FieldType.int)).before args0 about1=true:=code_word (m:=⟨2,42⟩) (meth:=k2m42) (c:=k2c42) (by decide +kernel) rfl rfl rfl (by decide +kernel)
theorem w_c45:(Jvm.Cond.code ({ cls := "AgentExprDbg", name := "validExpr", desc := "(II)Z" }:Jvm.MethodName) prog_1_method_44_code (3:Nat) (Option.some Jvm.ClassFile.FieldType.boolean)).before args0 about1=true:=code_word (m:=⟨2,43⟩) (meth:=k2m43) (c:=k2c43) (by decide +kernel) rfl rfl rfl (by decide +kernel)
theorem w_c46:(Jvm.Cond.code ({ cls := "AgentExprDbg", name := "evalExpr", desc := "(II)I" }:Jvm.MethodName) prog_1_method_45_code (7:Nat) (Option.some Jvm.ClassFile.FieldType.int)).before args0 about1=true:=code_word (m:=⟨2,44⟩) (meth:=k2m44) (c:=k2c44) (by decide +kernel) rfl rfl rfl (by decide +kernel)
theorem w_c47:(Jvm.Cond.code ({ cls := "AgentExprDbg", name := "evalStep", desc := "(III)I" }:Jvm.MethodName) prog_1_method_46_code (5:Nat) (Option.some Jvm.ClassFile.FieldType.int)).before args0 about1=true:=code_word (m:=⟨2,45⟩) (meth:=k2m45) (c:=k2c45) (by decide +kernel) rfl rfl rfl (by decide +kernel)
theorem w_c48:(Jvm.Cond.code ({ cls := "AgentExprDbg", name := "push", desc := "(I)V" }:Jvm.MethodName) prog_1_method_54_code (2:Nat) (Option.none:Option Jvm.ClassFile.FieldType)).before args0 about1=true:=code_word (m:=⟨2,53⟩) (meth:=k2m53) (c:=k2c53) (by decide +kernel) rfl rfl rfl (by decide +kernel)
theorem w_c49:(Jvm.Cond.code ({ cls := "AgentExprDbg", name := "binaryStep", desc := "(I)V" }:Jvm.MethodName) prog_1_method_49_code (5:Nat) (Option.none:Option Jvm.ClassFile.FieldType)).before args0 about1=true:=code_word (m:=⟨2,48⟩) (meth:=k2m48) (c:=k2c48) (by decide +kernel) rfl rfl rfl (by decide +kernel)
theorem w_c50:(Jvm.Cond.code ({ cls := "AgentExprDbg", name := "pop", desc := "()I" }:Jvm.MethodName) prog_1_method_55_code (1:Nat) (Option.some Jvm.ClassFile.FieldType.int)).before args0 about1=true:=code_word (m:=⟨2,54⟩) (meth:=k2m54) (c:=k2c54) (by decide +kernel) rfl rfl rfl (by decide +kernel)
theorem w_c51:(Jvm.Cond.code ({ cls := "AgentExprDbg", name := "applyBinary", desc := "(III)I" }:Jvm.MethodName) prog_1_method_51_code (4:Nat) (Option.some Jvm.ClassFile.FieldType.int)).before args0 about1=true:=code_word (m:=⟨2,50⟩) (meth:=k2m50) (c:=k2c50) (by decide +kernel) rfl rfl rfl (by decide +kernel)
theorem w_c52:(Jvm.Cond.code ({ cls := "AgentExprDbg", name := "top", desc := "()I" }:Jvm.MethodName) prog_1_method_56_code (1:Nat) (Option.some Jvm.ClassFile.FieldType.int)).before args0 about1=true:=code_word (m:=⟨2,55⟩) (meth:=k2m55) (c:=k2c55) (by decide +kernel) rfl rfl rfl (by decide +kernel)
theorem w_c53:(Jvm.Cond.code ({ cls := "AgentExprDbg", name := "getMem", desc := "(I)I" }:Jvm.MethodName) prog_1_method_8_code (2:Nat) (Option.some Jvm.ClassFile.FieldType.int)).before args0 about1=true:=code_word (m:=⟨2,7⟩) (meth:=k2m7) (c:=k2c7) (by decide +kernel) rfl rfl rfl (by decide +kernel)
theorem w_c54:(Jvm.Cond.code ({ cls := "AgentExprDbg", name := "agentHit", desc := "(II)I" }:Jvm.MethodName) prog_1_method_39_code (4:Nat) (Option.some Jvm.ClassFile.FieldType.int)).before args0 about1=true:=code_word (m:=⟨2,38⟩) (meth:=k2m38) (c:=k2c38) (by decide +kernel) rfl rfl rfl (by decide +kernel)
theorem w_c55:(Jvm.Cond.code ({ cls := "AgentExprDbg", name := "buildFrame", desc := "(II)V" }:Jvm.MethodName) prog_1_method_40_code (6:Nat) (Option.none:Option Jvm.ClassFile.FieldType)).before args0 about1=true:=code_word (m:=⟨2,39⟩) (meth:=k2m39) (c:=k2c39) (by decide +kernel) rfl rfl rfl (by decide +kernel)
theorem w_c56:(Jvm.Cond.code ({ cls := "AgentExprDbg", name := "storeFrame", desc := "()Z" }:Jvm.MethodName) prog_1_method_41_code (1:Nat) (Option.some Jvm.ClassFile.FieldType.boolean)).before args0 about1=true:=code_word (m:=⟨2,40⟩) (meth:=k2m40) (c:=k2c40) (by decide +kernel) rfl rfl rfl (by decide +kernel)
theorem w_c57:(Jvm.Cond.code ({ cls := "AgentExprDbg", name := "writePending", desc := "(I)V" }:Jvm.MethodName) prog_1_method_42_code (4:Nat) (Option.none:Option Jvm.ClassFile.FieldType)).before args0 about1=true:=code_word (m:=⟨2,41⟩) (meth:=k2m41) (c:=k2c41) (by decide +kernel) rfl rfl rfl (by decide +kernel)
theorem w_c58:(Jvm.Cond.code ({ cls := "AgentExprDbg", name := "frame", desc := "(II)I" }:Jvm.MethodName) prog_1_method_61_code (4:Nat) (Option.some Jvm.ClassFile.FieldType.int)).before args0 about1=true:=code_word (m:=⟨2,60⟩) (meth:=k2m60) (c:=k2c60) (by decide +kernel) rfl rfl rfl (by decide +kernel)
theorem w_c59:(Jvm.Cond.code ({ cls := "AgentExprDbg", name := "frameValue", desc := "(II)I" }:Jvm.MethodName) prog_1_method_62_code (4:Nat) (Option.some Jvm.ClassFile.FieldType.int)).before args0 about1=true:=code_word (m:=⟨2,61⟩) (meth:=k2m61) (c:=k2c61) (by decide +kernel) rfl rfl rfl (by decide +kernel)
theorem w_c60:(Jvm.Cond.code ({ cls := "AgentExprDbg", name := "clearTrace", desc := "()V" }:Jvm.MethodName) prog_1_method_63_code (1:Nat) (Option.none:Option Jvm.ClassFile.FieldType)).before args0 about1=true:=code_word (m:=⟨2,62⟩) (meth:=k2m62) (c:=k2c62) (by decide +kernel) rfl rfl rfl (by decide +kernel)
theorem w_c61:(Jvm.Cond.code ({ cls := "AgentExprDbg", name := "shortCircuit", desc := "(III)I" }:Jvm.MethodName) prog_1_method_47_code (5:Nat) (Option.some Jvm.ClassFile.FieldType.int)).before args0 about1=true:=code_word (m:=⟨2,46⟩) (meth:=k2m46) (c:=k2c46) (by decide +kernel) rfl rfl rfl (by decide +kernel)
theorem w_c62:(Jvm.Cond.code ({ cls := "AgentExprDbg", name := "unaryStep", desc := "(I)V" }:Jvm.MethodName) prog_1_method_48_code (4:Nat) (Option.none:Option Jvm.ClassFile.FieldType)).before args0 about1=true:=code_word (m:=⟨2,47⟩) (meth:=k2m47) (c:=k2c47) (by decide +kernel) rfl rfl rfl (by decide +kernel)
theorem w_c63:(Jvm.Cond.code ({ cls := "AgentExprDbg", name := "applyUnary", desc := "(II)I" }:Jvm.MethodName) prog_1_method_50_code (3:Nat) (Option.some Jvm.ClassFile.FieldType.int)).before args0 about1=true:=code_word (m:=⟨2,49⟩) (meth:=k2m49) (c:=k2c49) (by decide +kernel) rfl rfl rfl (by decide +kernel)
theorem w_c64:(Jvm.Cond.code ({ cls := "AgentExprDbg", name := "setTop", desc := "(I)V" }:Jvm.MethodName) prog_1_method_57_code (2:Nat) (Option.none:Option Jvm.ClassFile.FieldType)).before args0 about1=true:=code_word (m:=⟨2,56⟩) (meth:=k2m56) (c:=k2c56) (by decide +kernel) rfl rfl rfl (by decide +kernel)
theorem w_c65:(Jvm.Cond.code ({ cls := "AgentExprDbg", name := "compare", desc := "(III)I" }:Jvm.MethodName) prog_1_method_53_code (4:Nat) (Option.some Jvm.ClassFile.FieldType.int)).before args0 about1=true:=code_word (m:=⟨2,52⟩) (meth:=k2m52) (c:=k2c52) (by decide +kernel) rfl rfl rfl (by decide +kernel)
theorem w_c66:(Jvm.Cond.code ({ cls := "AgentExprDbg", name := "boolInt", desc := "(Z)I" }:Jvm.MethodName) prog_1_method_65_code (2:Nat) (Option.some Jvm.ClassFile.FieldType.int)).before args0 about1=true:=code_word (m:=⟨2,64⟩) (meth:=k2m64) (c:=k2c64) (by decide +kernel) rfl rfl rfl (by decide +kernel)
theorem w_c67:(Jvm.Cond.code ({ cls := "AgentExprDbg", name := "executeData", desc := "(III)V" }:Jvm.MethodName) prog_1_method_38_code (5:Nat) (Option.none:Option Jvm.ClassFile.FieldType)).before args0 about1=true:=code_word (m:=⟨2,37⟩) (meth:=k2m37) (c:=k2c37) (by decide +kernel) rfl rfl rfl (by decide +kernel)
theorem w_c68:(Jvm.Cond.code ({ cls := "AgentExprDbg", name := "divide", desc := "(III)I" }:Jvm.MethodName) prog_1_method_52_code (4:Nat) (Option.some Jvm.ClassFile.FieldType.int)).before args0 about1=true:=code_word (m:=⟨2,51⟩) (meth:=k2m51) (c:=k2c51) (by decide +kernel) rfl rfl rfl (by decide +kernel)
def codes1:List Jvm.Cond:=[Jvm.Cond.code x code maxLocals ret,Jvm.Cond.code ({ cls := "AgentExprDbgOwnLaw", name := "cell", desc := "([II)I" }:Jvm.MethodName) method_2_code (2:Nat) (Option.some Jvm.ClassFile.FieldType.int),Jvm.Cond.code ({ cls := "AgentExprDbg", name := "<init>", desc := "(II)V" }:Jvm.MethodName) prog_1_method_1_code (5:Nat) (Option.none:Option Jvm.ClassFile.FieldType),Jvm.Cond.code ({ cls := "java/lang/Object", name := "<init>", desc := "()V" }:Jvm.MethodName) object_method_1_code (1:Nat) (Option.none:Option Jvm.ClassFile.FieldType),Jvm.Cond.code ({ cls := "AgentExprDbgOwnLaw", name := "mod", desc := "(II)I" }:Jvm.MethodName) method_3_code (3:Nat) (Option.some Jvm.ClassFile.FieldType.int),Jvm.Cond.code ({ cls := "AgentExprDbg", name := "setReg", desc := "(II)Z" }:Jvm.MethodName) prog_1_method_5_code (3:Nat) (Option.some Jvm.ClassFile.FieldType.boolean),Jvm.Cond.code ({ cls := "AgentExprDbg", name := "inRange", desc := "(III)Z" }:Jvm.MethodName) prog_1_method_64_code (4:Nat) (Option.some Jvm.ClassFile.FieldType.boolean),Jvm.Cond.code ({ cls := "AgentExprDbg", name := "setInstr", desc := "(IIII)Z" }:Jvm.MethodName) prog_1_method_2_code (5:Nat) (Option.some Jvm.ClassFile.FieldType.boolean),Jvm.Cond.code ({ cls := "AgentExprDbg", name := "validInstr", desc := "(IIII)Z" }:Jvm.MethodName) prog_1_method_3_code (5:Nat) (Option.some Jvm.ClassFile.FieldType.boolean),Jvm.Cond.code ({ cls := "AgentExprDbg", name := "validSecond", desc := "(II)Z" }:Jvm.MethodName) prog_1_method_4_code (3:Nat) (Option.some Jvm.ClassFile.FieldType.boolean),Jvm.Cond.code ({ cls := "AgentExprDbg", name := "install", desc := "(III)Z" }:Jvm.MethodName) prog_1_method_31_code (5:Nat) (Option.some Jvm.ClassFile.FieldType.boolean),Jvm.Cond.code ({ cls := "AgentExprDbg", name := "addToken", desc := "(II)Z" }:Jvm.MethodName) prog_1_method_9_code (3:Nat) (Option.some Jvm.ClassFile.FieldType.boolean),Jvm.Cond.code ({ cls := "AgentExprDbg", name := "compile", desc := "(I)I" }:Jvm.MethodName) prog_1_method_10_code (3:Nat) (Option.some Jvm.ClassFile.FieldType.int),Jvm.Cond.code ({ cls := "AgentExprDbg", name := "compileChecked", desc := "(I)I" }:Jvm.MethodName) prog_1_method_11_code (2:Nat) (Option.some Jvm.ClassFile.FieldType.int),Jvm.Cond.code ({ cls := "AgentExprDbg", name := "parseAll", desc := "()Z" }:Jvm.MethodName) prog_1_method_12_code (5:Nat) (Option.some Jvm.ClassFile.FieldType.boolean),Jvm.Cond.code ({ cls := "AgentExprDbg", name := "resetScratch", desc := "()V" }:Jvm.MethodName) prog_1_method_13_code (1:Nat) (Option.none:Option Jvm.ClassFile.FieldType),Jvm.Cond.code ({ cls := "AgentExprDbg", name := "parseOperand", desc := "(II)Z" }:Jvm.MethodName) prog_1_method_14_code (3:Nat) (Option.some Jvm.ClassFile.FieldType.boolean),Jvm.Cond.code ({ cls := "AgentExprDbg", name := "pushNeed", desc := "(I)Z" }:Jvm.MethodName) prog_1_method_24_code (2:Nat) (Option.some Jvm.ClassFile.FieldType.boolean),Jvm.Cond.code ({ cls := "AgentExprDbg", name := "emit", desc := "(II)Z" }:Jvm.MethodName) prog_1_method_26_code (3:Nat) (Option.some Jvm.ClassFile.FieldType.boolean),Jvm.Cond.code ({ cls := "AgentExprDbg", name := "finishSource", desc := "()Z" }:Jvm.MethodName) prog_1_method_22_code (1:Nat) (Option.some Jvm.ClassFile.FieldType.boolean),Jvm.Cond.code ({ cls := "AgentExprDbg", name := "reduceWhile", desc := "(I)Z" }:Jvm.MethodName) prog_1_method_17_code (4:Nat) (Option.some Jvm.ClassFile.FieldType.boolean),Jvm.Cond.code ({ cls := "AgentExprDbg", name := "closeExpr", desc := "()Z" }:Jvm.MethodName) prog_1_method_21_code (2:Nat) (Option.some Jvm.ClassFile.FieldType.boolean),Jvm.Cond.code ({ cls := "AgentExprDbg", name := "storeAgent", desc := "(I)V" }:Jvm.MethodName) prog_1_method_30_code (5:Nat) (Option.none:Option Jvm.ClassFile.FieldType),Jvm.Cond.code ({ cls := "AgentExprDbg", name := "parseOperator", desc := "(I)Z" }:Jvm.MethodName) prog_1_method_15_code (2:Nat) (Option.some Jvm.ClassFile.FieldType.boolean),Jvm.Cond.code ({ cls := "AgentExprDbg", name := "isBinary", desc := "(I)Z" }:Jvm.MethodName) prog_1_method_29_code (2:Nat) (Option.some Jvm.ClassFile.FieldType.boolean),Jvm.Cond.code ({ cls := "AgentExprDbg", name := "binaryOperator", desc := "(I)Z" }:Jvm.MethodName) prog_1_method_16_code (4:Nat) (Option.some Jvm.ClassFile.FieldType.boolean),Jvm.Cond.code ({ cls := "AgentExprDbg", name := "precedence", desc := "(I)I" }:Jvm.MethodName) prog_1_method_27_code (2:Nat) (Option.some Jvm.ClassFile.FieldType.int),Jvm.Cond.code ({ cls := "AgentExprDbg", name := "pushOp", desc := "(II)Z" }:Jvm.MethodName) prog_1_method_25_code (3:Nat) (Option.some Jvm.ClassFile.FieldType.boolean),Jvm.Cond.code ({ cls := "AgentExprDbg", name := "isUnary", desc := "(I)Z" }:Jvm.MethodName) prog_1_method_28_code (2:Nat) (Option.some Jvm.ClassFile.FieldType.boolean),Jvm.Cond.code ({ cls := "AgentExprDbg", name := "reduceOne", desc := "(II)Z" }:Jvm.MethodName) prog_1_method_18_code (3:Nat) (Option.some Jvm.ClassFile.FieldType.boolean),Jvm.Cond.code ({ cls := "AgentExprDbg", name := "combineNeed", desc := "()Z" }:Jvm.MethodName) prog_1_method_23_code (4:Nat) (Option.some Jvm.ClassFile.FieldType.boolean),Jvm.Cond.code ({ cls := "AgentExprDbg", name := "setMem", desc := "(II)Z" }:Jvm.MethodName) prog_1_method_6_code (3:Nat) (Option.some Jvm.ClassFile.FieldType.boolean),Jvm.Cond.code ({ cls := "AgentExprDbg", name := "slotAt", desc := "(I)I" }:Jvm.MethodName) prog_1_method_33_code (3:Nat) (Option.some Jvm.ClassFile.FieldType.int),Jvm.Cond.code ({ cls := "AgentExprDbg", name := "run", desc := "(I)I" }:Jvm.MethodName) prog_1_method_34_code (4:Nat) (Option.some Jvm.ClassFile.FieldType.int),Jvm.Cond.code ({ cls := "AgentExprDbg", name := "runLoop", desc := "(I)I" }:Jvm.MethodName) prog_1_method_35_code (4:Nat) (Option.some Jvm.ClassFile.FieldType.int),Jvm.Cond.code ({ cls := "AgentExprDbg", name := "oneStep", desc := "()I" }:Jvm.MethodName) prog_1_method_36_code (4:Nat) (Option.some Jvm.ClassFile.FieldType.int),Jvm.Cond.code ({ cls := "AgentExprDbg", name := "execute", desc := "(I)V" }:Jvm.MethodName) prog_1_method_37_code (6:Nat) (Option.none:Option Jvm.ClassFile.FieldType),Jvm.Cond.code ({ cls := "AgentExprDbg", name := "slotInfo", desc := "(II)I" }:Jvm.MethodName) prog_1_method_60_code (4:Nat) (Option.some Jvm.ClassFile.FieldType.int),Jvm.Cond.code ({ cls := "AgentExprDbg", name := "getReg", desc := "(I)I" }:Jvm.MethodName) prog_1_method_7_code (2:Nat) (Option.some Jvm.ClassFile.FieldType.int),Jvm.Cond.code ({ cls := "AgentExprDbg", name := "uninstall", desc := "(I)Z" }:Jvm.MethodName) prog_1_method_32_code (2:Nat) (Option.some Jvm.ClassFile.FieldType.boolean),Jvm.Cond.code ({ cls := "AgentExprDbg", name := "closeParen", desc := "()Z" }:Jvm.MethodName) prog_1_method_19_code (1:Nat) (Option.some Jvm.ClassFile.FieldType.boolean),Jvm.Cond.code ({ cls := "AgentExprDbg", name := "endOfExpr", desc := "()Z" }:Jvm.MethodName) prog_1_method_20_code (1:Nat) (Option.some Jvm.ClassFile.FieldType.boolean),Jvm.Cond.code ({ cls := "AgentExprDbg", name := "status", desc := "(I)I" }:Jvm.MethodName) prog_1_method_58_code (2:Nat) (Option.some Jvm.ClassFile.FieldType.int),Jvm.Cond.code ({ cls := "AgentExprDbg", name := "statusMore", desc := "(I)I" }:Jvm.MethodName) prog_1_method_59_code (2:Nat) (Option.some Jvm.ClassFile.FieldType.int),Jvm.Cond.code ({ cls := "AgentExprDbg", name := "hostEval", desc := "(II)I" }:Jvm.MethodName) prog_1_method_43_code (4:Nat) (Option.some Jvm.ClassFile.FieldType.int),Jvm.Cond.code ({ cls := "AgentExprDbg", name := "validExpr", desc := "(II)Z" }:Jvm.MethodName) prog_1_method_44_code (3:Nat) (Option.some Jvm.ClassFile.FieldType.boolean),Jvm.Cond.code ({ cls := "AgentExprDbg", name := "evalExpr", desc := "(II)I" }:Jvm.MethodName) prog_1_method_45_code (7:Nat) (Option.some Jvm.ClassFile.FieldType.int),Jvm.Cond.code ({ cls := "AgentExprDbg", name := "evalStep", desc := "(III)I" }:Jvm.MethodName) prog_1_method_46_code (5:Nat) (Option.some Jvm.ClassFile.FieldType.int),Jvm.Cond.code ({ cls := "AgentExprDbg", name := "push", desc := "(I)V" }:Jvm.MethodName) prog_1_method_54_code (2:Nat) (Option.none:Option Jvm.ClassFile.FieldType),Jvm.Cond.code ({ cls := "AgentExprDbg", name := "binaryStep", desc := "(I)V" }:Jvm.MethodName) prog_1_method_49_code (5:Nat) (Option.none:Option Jvm.ClassFile.FieldType),Jvm.Cond.code ({ cls := "AgentExprDbg", name := "pop", desc := "()I" }:Jvm.MethodName) prog_1_method_55_code (1:Nat) (Option.some Jvm.ClassFile.FieldType.int),Jvm.Cond.code ({ cls := "AgentExprDbg", name := "applyBinary", desc := "(III)I" }:Jvm.MethodName) prog_1_method_51_code (4:Nat) (Option.some Jvm.ClassFile.FieldType.int),Jvm.Cond.code ({ cls := "AgentExprDbg", name := "top", desc := "()I" }:Jvm.MethodName) prog_1_method_56_code (1:Nat) (Option.some Jvm.ClassFile.FieldType.int),Jvm.Cond.code ({ cls := "AgentExprDbg", name := "getMem", desc := "(I)I" }:Jvm.MethodName) prog_1_method_8_code (2:Nat) (Option.some Jvm.ClassFile.FieldType.int),Jvm.Cond.code ({ cls := "AgentExprDbg", name := "agentHit", desc := "(II)I" }:Jvm.MethodName) prog_1_method_39_code (4:Nat) (Option.some Jvm.ClassFile.FieldType.int),Jvm.Cond.code ({ cls := "AgentExprDbg", name := "buildFrame", desc := "(II)V" }:Jvm.MethodName) prog_1_method_40_code (6:Nat) (Option.none:Option Jvm.ClassFile.FieldType),Jvm.Cond.code ({ cls := "AgentExprDbg", name := "storeFrame", desc := "()Z" }:Jvm.MethodName) prog_1_method_41_code (1:Nat) (Option.some Jvm.ClassFile.FieldType.boolean),Jvm.Cond.code ({ cls := "AgentExprDbg", name := "writePending", desc := "(I)V" }:Jvm.MethodName) prog_1_method_42_code (4:Nat) (Option.none:Option Jvm.ClassFile.FieldType),Jvm.Cond.code ({ cls := "AgentExprDbg", name := "frame", desc := "(II)I" }:Jvm.MethodName) prog_1_method_61_code (4:Nat) (Option.some Jvm.ClassFile.FieldType.int),Jvm.Cond.code ({ cls := "AgentExprDbg", name := "frameValue", desc := "(II)I" }:Jvm.MethodName) prog_1_method_62_code (4:Nat) (Option.some Jvm.ClassFile.FieldType.int),Jvm.Cond.code ({ cls := "AgentExprDbg", name := "clearTrace", desc := "()V" }:Jvm.MethodName) prog_1_method_63_code (1:Nat) (Option.none:Option Jvm.ClassFile.FieldType),Jvm.Cond.code ({ cls := "AgentExprDbg", name := "shortCircuit", desc := "(III)I" }:Jvm.MethodName) prog_1_method_47_code (5:Nat) (Option.some Jvm.ClassFile.FieldType.int),Jvm.Cond.code ({ cls := "AgentExprDbg", name := "unaryStep", desc := "(I)V" }:Jvm.MethodName) prog_1_method_48_code (4:Nat) (Option.none:Option Jvm.ClassFile.FieldType),Jvm.Cond.code ({ cls := "AgentExprDbg", name := "applyUnary", desc := "(II)I" }:Jvm.MethodName) prog_1_method_50_code (3:Nat) (Option.some Jvm.ClassFile.FieldType.int),Jvm.Cond.code ({ cls := "AgentExprDbg", name := "setTop", desc := "(I)V" }:Jvm.MethodName) prog_1_method_57_code (2:Nat) (Option.none:Option Jvm.ClassFile.FieldType),Jvm.Cond.code ({ cls := "AgentExprDbg", name := "compare", desc := "(III)I" }:Jvm.MethodName) prog_1_method_53_code (4:Nat) (Option.some Jvm.ClassFile.FieldType.int),Jvm.Cond.code ({ cls := "AgentExprDbg", name := "boolInt", desc := "(Z)I" }:Jvm.MethodName) prog_1_method_65_code (2:Nat) (Option.some Jvm.ClassFile.FieldType.int),Jvm.Cond.code ({ cls := "AgentExprDbg", name := "executeData", desc := "(III)V" }:Jvm.MethodName) prog_1_method_38_code (5:Nat) (Option.none:Option Jvm.ClassFile.FieldType),Jvm.Cond.code ({ cls := "AgentExprDbg", name := "divide", desc := "(III)I" }:Jvm.MethodName) prog_1_method_52_code (4:Nat) (Option.some Jvm.ClassFile.FieldType.int)]
theorem codes_eq:words1.filter isCode=codes1:=rfl
theorem w_codes:∀ c ∈ words1.filter isCode,c.before args0 about1=true:=by
  rw [codes_eq]
  intro c hc
  simp only [codes1,List.mem_cons,List.not_mem_nil,or_false] at hc
  rcases hc with rfl | rfl | rfl | rfl | rfl | rfl | rfl | rfl | rfl | rfl | rfl | rfl | rfl | rfl | rfl | rfl | rfl | rfl | rfl | rfl | rfl | rfl | rfl | rfl | rfl | rfl | rfl | rfl | rfl | rfl | rfl | rfl | rfl | rfl | rfl | rfl | rfl | rfl | rfl | rfl | rfl | rfl | rfl | rfl | rfl | rfl | rfl | rfl | rfl | rfl | rfl | rfl | rfl | rfl | rfl | rfl | rfl | rfl | rfl | rfl | rfl | rfl | rfl | rfl | rfl | rfl | rfl | rfl | rfl
  · exact w_c0
  · exact w_c1
  · exact w_c2
  · exact w_c3
  · exact w_c4
  · exact w_c5
  · exact w_c6
  · exact w_c7
  · exact w_c8
  · exact w_c9
  · exact w_c10
  · exact w_c11
  · exact w_c12
  · exact w_c13
  · exact w_c14
  · exact w_c15
  · exact w_c16
  · exact w_c17
  · exact w_c18
  · exact w_c19
  · exact w_c20
  · exact w_c21
  · exact w_c22
  · exact w_c23
  · exact w_c24
  · exact w_c25
  · exact w_c26
  · exact w_c27
  · exact w_c28
  · exact w_c29
  · exact w_c30
  · exact w_c31
  · exact w_c32
  · exact w_c33
  · exact w_c34
  · exact w_c35
  · exact w_c36
  · exact w_c37
  · exact w_c38
  · exact w_c39
  · exact w_c40
  · exact w_c41
  · exact w_c42
  · exact w_c43
  · exact w_c44
  · exact w_c45
  · exact w_c46
  · exact w_c47
  · exact w_c48
  · exact w_c49
  · exact w_c50
  · exact w_c51
  · exact w_c52
  · exact w_c53
  · exact w_c54
  · exact w_c55
  · exact w_c56
  · exact w_c57
  · exact w_c58
  · exact w_c59
  · exact w_c60
  · exact w_c61
  · exact w_c62
  · exact w_c63
  · exact w_c64
  · exact w_c65
  · exact w_c66
  · exact w_c67
  · exact w_c68
theorem w_t1:(words1.take 24).all (fun c => isCode c || c.before args0 about1)=true:=by decide +kernel
theorem w_t2:((words1.drop 24).take 24).all (fun c => isCode c || c.before args0 about1)=true:=by decide +kernel
theorem w_t3:(((words1.drop 24).drop 24).take 24).all (fun c => isCode c || c.before args0 about1)=true:=by decide +kernel
theorem w_t4:((((words1.drop 24).drop 24).drop 24).take 24).all (fun c => isCode c || c.before args0 about1)=true:=by decide +kernel
theorem w_t5:(((((words1.drop 24).drop 24).drop 24).drop 24).take 24).all (fun c => isCode c || c.before args0 about1)=true:=by decide +kernel
theorem w_t6:((((((words1.drop 24).drop 24).drop 24).drop 24).drop 24).take 24).all (fun c => isCode c || c.before args0 about1)=true:=by decide +kernel
theorem w_t7:(((((((words1.drop 24).drop 24).drop 24).drop 24).drop 24).drop 24).take 24).all (fun c => isCode c || c.before args0 about1)=true:=by decide +kernel
theorem w_t8:((((((((words1.drop 24).drop 24).drop 24).drop 24).drop 24).drop 24).drop 24).take 24).all (fun c => isCode c || c.before args0 about1)=true:=by decide +kernel
theorem w_t9:(((((((((words1.drop 24).drop 24).drop 24).drop 24).drop 24).drop 24).drop 24).drop 24).take 24).all (fun c => isCode c || c.before args0 about1)=true:=by decide +kernel
theorem w_t10:((((((((((words1.drop 24).drop 24).drop 24).drop 24).drop 24).drop 24).drop 24).drop 24).drop 24).take 24).all (fun c => isCode c || c.before args0 about1)=true:=by decide +kernel
theorem w_t11:(((((((((((words1.drop 24).drop 24).drop 24).drop 24).drop 24).drop 24).drop 24).drop 24).drop 24).drop 24).take 24).all (fun c => isCode c || c.before args0 about1)=true:=by decide +kernel
theorem w_t12:((((((((((((words1.drop 24).drop 24).drop 24).drop 24).drop 24).drop 24).drop 24).drop 24).drop 24).drop 24).drop 24).take 24).all (fun c => isCode c || c.before args0 about1)=true:=by decide +kernel
theorem w_t13:(((((((((((((words1.drop 24).drop 24).drop 24).drop 24).drop 24).drop 24).drop 24).drop 24).drop 24).drop 24).drop 24).drop 24).take 24).all (fun c => isCode c || c.before args0 about1)=true:=by decide +kernel
theorem w_t14:((((((((((((((words1.drop 24).drop 24).drop 24).drop 24).drop 24).drop 24).drop 24).drop 24).drop 24).drop 24).drop 24).drop 24).drop 24).take 24).all (fun c => isCode c || c.before args0 about1)=true:=by decide +kernel
theorem w_t15:(((((((((((((((words1.drop 24).drop 24).drop 24).drop 24).drop 24).drop 24).drop 24).drop 24).drop 24).drop 24).drop 24).drop 24).drop 24).drop 24).take 24).all (fun c => isCode c || c.before args0 about1)=true:=by decide +kernel
theorem w_t16:((((((((((((((((words1.drop 24).drop 24).drop 24).drop 24).drop 24).drop 24).drop 24).drop 24).drop 24).drop 24).drop 24).drop 24).drop 24).drop 24).drop 24).take 24).all (fun c => isCode c || c.before args0 about1)=true:=by decide +kernel
theorem w_t17:(((((((((((((((((words1.drop 24).drop 24).drop 24).drop 24).drop 24).drop 24).drop 24).drop 24).drop 24).drop 24).drop 24).drop 24).drop 24).drop 24).drop 24).drop 24).take 24).all (fun c => isCode c || c.before args0 about1)=true:=by decide +kernel
theorem w_t18:(((((((((((((((((words1.drop 24).drop 24).drop 24).drop 24).drop 24).drop 24).drop 24).drop 24).drop 24).drop 24).drop 24).drop 24).drop 24).drop 24).drop 24).drop 24).drop 24).all (fun c => isCode c || c.before args0 about1)=true:=by decide +kernel
theorem w_tables:(allAtoms (Jvm.Cond.code x code maxLocals ret::tables_1)).before args0 about1=true:=by
  rw [allAtoms_all]
  show words1.all (fun c => c.before args0 about1)=true
  refine all_split ?_ w_codes
  rw [← List.take_append_drop 24 words1,List.all_append,w_t1,← List.take_append_drop 24 (words1.drop 24),List.all_append,w_t2,← List.take_append_drop 24 ((words1.drop 24).drop 24),List.all_append,w_t3,← List.take_append_drop 24 (((words1.drop 24).drop 24).drop 24),List.all_append,w_t4,← List.take_append_drop 24 ((((words1.drop 24).drop 24).drop 24).drop 24),List.all_append,w_t5,← List.take_append_drop 24 (((((words1.drop 24).drop 24).drop 24).drop 24).drop 24),List.all_append,w_t6,← List.take_append_drop 24 ((((((words1.drop 24).drop 24).drop 24).drop 24).drop 24).drop 24),List.all_append,w_t7,← List.take_append_drop 24 (((((((words1.drop 24).drop 24).drop 24).drop 24).drop 24).drop 24).drop 24),List.all_append,w_t8,← List.take_append_drop 24 ((((((((words1.drop 24).drop 24).drop 24).drop 24).drop 24).drop 24).drop 24).drop 24),List.all_append,w_t9,← List.take_append_drop 24 (((((((((words1.drop 24).drop 24).drop 24).drop 24).drop 24).drop 24).drop 24).drop 24).drop 24),List.all_append,w_t10,← List.take_append_drop 24 ((((((((((words1.drop 24).drop 24).drop 24).drop 24).drop 24).drop 24).drop 24).drop 24).drop 24).drop 24),List.all_append,w_t11,← List.take_append_drop 24 (((((((((((words1.drop 24).drop 24).drop 24).drop 24).drop 24).drop 24).drop 24).drop 24).drop 24).drop 24).drop 24),List.all_append,w_t12,← List.take_append_drop 24 ((((((((((((words1.drop 24).drop 24).drop 24).drop 24).drop 24).drop 24).drop 24).drop 24).drop 24).drop 24).drop 24).drop 24),List.all_append,w_t13,← List.take_append_drop 24 (((((((((((((words1.drop 24).drop 24).drop 24).drop 24).drop 24).drop 24).drop 24).drop 24).drop 24).drop 24).drop 24).drop 24).drop 24),List.all_append,w_t14,← List.take_append_drop 24 ((((((((((((((words1.drop 24).drop 24).drop 24).drop 24).drop 24).drop 24).drop 24).drop 24).drop 24).drop 24).drop 24).drop 24).drop 24).drop 24),List.all_append,w_t15,← List.take_append_drop 24 (((((((((((((((words1.drop 24).drop 24).drop 24).drop 24).drop 24).drop 24).drop 24).drop 24).drop 24).drop 24).drop 24).drop 24).drop 24).drop 24).drop 24),List.all_append,w_t16,← List.take_append_drop 24 ((((((((((((((((words1.drop 24).drop 24).drop 24).drop 24).drop 24).drop 24).drop 24).drop 24).drop 24).drop 24).drop 24).drop 24).drop 24).drop 24).drop 24).drop 24),List.all_append,w_t17,w_t18]
  rfl
theorem w_rest:rest_1_c.before args0 about1=true:=by decide +kernel
theorem w_case:(Jvm.Cond.and given_1 narrow_1).before args0 about1=true:=by decide +kernel
theorem w_applies:(headSpec (Jvm.Cond.code x code maxLocals ret::tables_1) room_1).applies x e0.platform about1=true :=
  (Spec.applies_iff w_frames).mpr ⟨w_running,w_runnable,w_alone,w_named,w_hears,w_ripe,w_room,w_tables⟩
theorem atStart:AtStart classFile x code maxLocals ret World_1 tables_1 room_1 Calls_1 rest_1 Pre_1 launch0 p0 e0 about1 theMethod args0 below0 :=
  ⟨lists_1,trivial,launch0.admits_env _ _ _,launch0.least_env,fairChoices_fair.cas,fairChoices_fair.clock,w_frames,w_args,w_heap,w_applies,trivial,w_rest,w_case⟩
end start1
theorem witness_1:WitnessClaimed_1:=⟨start1.p0,start1.e0,start1.about1,start1.theMethod,start1.args0,start1.below0,start1.atStart⟩
end Jvm.Pilot.@@N@@
