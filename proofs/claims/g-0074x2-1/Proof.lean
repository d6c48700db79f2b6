import JvmDerived
import JvmDerived.Pilot.@@N@@Statement
import JvmDerived.Pilot.@@N@@Code
set_option linter.unusedVariables false
set_option linter.unusedSimpArgs false
namespace Jvm.Own
open Sem ClassFile Op Lib Jvm.Stand Jvm.Free Jvm.LawKit Jvm.RoadKit
abbrev AHeap:=List (FieldType × List Value)
abbrev Ws:=List Jvm.Cond
def rFld (ws : Ws) (own : String) (i : Nat) : Option (String × String × String) :=
  ws.findSome? fun d => match d with
    | .fieldLink o j C n t => if o = own∧j = i then some (C,n,t) else none
    | _ => none
def rCls (ws : Ws) (own : String) (i : Nat) : Option String :=
  ws.findSome? fun d => match d with
    | .classLink o j C => if o = own∧j = i then some C else none
    | _ => none
def rMth (ws : Ws) (own : String) (i : Nat) : Option MethodName :=
  ws.findSome? fun d => match d with
    | .methodLink o j y => if o = own∧j = i then some y else none
    | _ => none
def rCon (ws : Ws) (own : String) (i : Nat) : Option Int32 :=
  ws.findSome? fun d => match d with
    | .constant o j v => if o = own∧j = i then some v else none
    | _ => none
def rConL (ws : Ws) (own : String) (i : Nat) : Option Int64 :=
  ws.findSome? fun d => match d with
    | .constantLong o j v => if o = own∧j = i then some v else none
    | _ => none
def rInst (ws : Ws) (C : String) : Option Nat :=
  ws.findSome? fun d => match d with
    | .instantiable c n => if c = C then some n else none
    | _ => none
def rCode (ws : Ws) (y : MethodName) : Option (ByteArray × Nat × Option FieldType) :=
  ws.findSome? fun d => match d with
    | .code z b m r => if z = y then some (b,m,r) else none
    | _ => none
def hasInit (ws : Ws) (C : String) : Bool:=ws.any fun d => match d with | .initialized c => c == C | _ => false
def hasArr (ws : Ws) (t : FieldType) : Bool:=ws.any fun d => match d with | .arrayClass c => decide (c = t) | _ => false
def hasStat (ws : Ws) (y : MethodName) : Bool:=ws.any fun d => match d with | .static z => decide (z = y) | _ => false
def hasIM (ws : Ws) (y : MethodName) : Bool:=ws.any fun d => match d with | .instanceMethod z => decide (z = y) | _ => false
def hasPriv (ws : Ws) (y : MethodName) : Bool:=ws.any fun d => match d with | .privateMethod z => decide (z = y) | _ => false
def hasDecl (ws : Ws) (y : MethodName) : Bool:=ws.any fun d => match d with | .declares z => decide (z = y) | _ => false
def hasSel (ws : Ws) (y : MethodName) : Bool:=ws.any fun d => match d with | .selects c z z' => decide (c = y.cls∧z = y∧z' = y) | _ => false
def hasLays (ws : Ws) (C n t : String) : Bool:=ws.any fun d => match d with | .lays c o n' t' => decide (c = C∧o = C∧n' = n∧t' = t) | _ => false
def hasLaysF (ws : Ws) (C n t : String) : Bool:=ws.any fun d => match d with | .laysFinal c o n' t' => decide (c = C∧o = C∧n' = n∧t' = t) | _ => false
def layE (C : String) : Jvm.Cond→Option (String × String)
  | .lays c o n t => if c = C∧o = C∧(parseFieldDescriptor t).isSome = true then some (n,t) else none
  | .laysFinal c o n t => if c = C∧o = C∧(parseFieldDescriptor t).isSome = true then some (n,t) else none
  | _ => none
def olay (ws : Ws) (C : String) : List (String × String):=ws.filterMap (layE C)
def idx (x : String × String) : List (String × String)→Option Nat
  | [] => none
  | y::r => if y = x then some 0 else (idx x r).map (· + 1)
def fidx (ws : Ws) (C n t : String) : Option Nat:=idx (n,t) (olay ws C)
def gfR (ws : Ws) (own : String) (i : Nat) : Option (String × Nat) :=
  match rFld ws own i with
  | some (C,n,t) => (fidx ws C n t).map fun j => (C,j)
  | none => none
def pfR (ws : Ws) (own mn : String) (i : Nat) : Option (String × Nat × FieldType) :=
  match rFld ws own i with
  | some (C,n,t) =>
    match fidx ws C n t,parseFieldDescriptor t with
    | some j,some ty => if (hasLays ws C n t || (hasLaysF ws C n t && own == C && mn == "<init>")) && (rInst ws C).isSome && (olay ws C).all (fun q => q.1 != n || q.2 == t) then some (C,j,ty) else none
    | _,_ => none
  | none => none
section Res
variable {ws : Ws} {own C n t : String} {i : Nat} {y : MethodName}
theorem rFld_mem (h : rFld ws own i = some (C,n,t)) : Jvm.Cond.fieldLink own i C n t ∈ ws:=by
  obtain ⟨d,hd,e⟩:=List.exists_of_findSome?_eq_some h
  split at e
  · split at e
    · rename_i q; obtain ⟨rfl,rfl⟩:=q; cases e; exact hd
    · cases e
  · cases e
theorem rCls_mem (h : rCls ws own i = some C) : Jvm.Cond.classLink own i C ∈ ws:=by
  obtain ⟨d,hd,e⟩:=List.exists_of_findSome?_eq_some h
  split at e
  · split at e
    · rename_i q; obtain ⟨rfl,rfl⟩:=q; cases e; exact hd
    · cases e
  · cases e
theorem rMth_mem (h : rMth ws own i = some y) : Jvm.Cond.methodLink own i y ∈ ws:=by
  obtain ⟨d,hd,e⟩:=List.exists_of_findSome?_eq_some h
  split at e
  · split at e
    · rename_i q; obtain ⟨rfl,rfl⟩:=q; cases e; exact hd
    · cases e
  · cases e
theorem rCon_mem {v : Int32} (h : rCon ws own i = some v) : Jvm.Cond.constant own i v ∈ ws:=by
  obtain ⟨d,hd,e⟩:=List.exists_of_findSome?_eq_some h
  split at e
  · split at e
    · rename_i q; obtain ⟨rfl,rfl⟩:=q; cases e; exact hd
    · cases e
  · cases e
theorem rConL_mem {v : Int64} (h : rConL ws own i = some v) : Jvm.Cond.constantLong own i v ∈ ws:=by
  obtain ⟨d,hd,e⟩:=List.exists_of_findSome?_eq_some h
  split at e
  · split at e
    · rename_i q; obtain ⟨rfl,rfl⟩:=q; cases e; exact hd
    · cases e
  · cases e
theorem rInst_mem {k : Nat} (h : rInst ws C = some k) : Jvm.Cond.instantiable C k ∈ ws:=by
  obtain ⟨d,hd,e⟩:=List.exists_of_findSome?_eq_some h
  split at e
  · split at e
    · rename_i q; subst q; cases e; exact hd
    · cases e
  · cases e
theorem rCode_mem {b : ByteArray} {k : Nat} {r : Option FieldType} (h : rCode ws y = some (b,k,r)) : Jvm.Cond.code y b k r ∈ ws:=by
  obtain ⟨d,hd,e⟩:=List.exists_of_findSome?_eq_some h
  split at e
  · split at e
    · rename_i q; subst q; cases e; exact hd
    · cases e
  · cases e
theorem hasInit_mem (h : hasInit ws C = true) : Jvm.Cond.initialized C ∈ ws:=by
  obtain ⟨d,hd,e⟩:=List.any_eq_true.mp h
  split at e
  · rw [beq_iff_eq] at e; subst e; exact hd
  · cases e
theorem hasArr_mem {ty : FieldType} (h : hasArr ws ty = true) : Jvm.Cond.arrayClass ty ∈ ws:=by
  obtain ⟨d,hd,e⟩:=List.any_eq_true.mp h
  split at e
  · have e:=of_decide_eq_true e; subst e; exact hd
  · cases e
theorem hasStat_mem (h : hasStat ws y = true) : Jvm.Cond.static y ∈ ws:=by
  obtain ⟨d,hd,e⟩:=List.any_eq_true.mp h
  split at e
  · have e:=of_decide_eq_true e; subst e; exact hd
  · cases e
theorem hasIM_mem (h : hasIM ws y = true) : Jvm.Cond.instanceMethod y ∈ ws:=by
  obtain ⟨d,hd,e⟩:=List.any_eq_true.mp h
  split at e
  · have e:=of_decide_eq_true e; subst e; exact hd
  · cases e
theorem hasPriv_mem (h : hasPriv ws y = true) : Jvm.Cond.privateMethod y ∈ ws:=by
  obtain ⟨d,hd,e⟩:=List.any_eq_true.mp h
  split at e
  · have e:=of_decide_eq_true e; subst e; exact hd
  · cases e
theorem hasDecl_mem (h : hasDecl ws y = true) : Jvm.Cond.declares y ∈ ws:=by
  obtain ⟨d,hd,e⟩:=List.any_eq_true.mp h
  split at e
  · have e:=of_decide_eq_true e; subst e; exact hd
  · cases e
theorem hasSel_mem (h : hasSel ws y = true) : Jvm.Cond.selects y.cls y y ∈ ws:=by
  obtain ⟨d,hd,e⟩:=List.any_eq_true.mp h
  split at e
  · obtain ⟨rfl,rfl,rfl⟩:=of_decide_eq_true e; exact hd
  · cases e
theorem hasLays_mem (h : hasLays ws C n t = true) : Jvm.Cond.lays C C n t ∈ ws:=by
  obtain ⟨d,hd,e⟩:=List.any_eq_true.mp h
  split at e
  · obtain ⟨rfl,rfl,rfl,rfl⟩:=of_decide_eq_true e; exact hd
  · cases e
theorem hasLaysF_mem (h : hasLaysF ws C n t = true) : Jvm.Cond.laysFinal C C n t ∈ ws:=by
  obtain ⟨d,hd,e⟩:=List.any_eq_true.mp h
  split at e
  · obtain ⟨rfl,rfl,rfl,rfl⟩:=of_decide_eq_true e; exact hd
  · cases e
theorem lay_mem (h : (n,t) ∈ olay ws C) : (Jvm.Cond.lays C C n t ∈ ws ∨ Jvm.Cond.laysFinal C C n t ∈ ws)∧∃ ty,parseFieldDescriptor t = some ty:=by
  obtain ⟨d,hd,e⟩:=List.mem_filterMap.mp h
  unfold layE at e
  split at e
  · split at e
    · rename_i q; obtain ⟨rfl,rfl,q⟩:=q; cases e; exact ⟨Or.inl hd,Option.isSome_iff_exists.mp q⟩
    · cases e
  · split at e
    · rename_i q; obtain ⟨rfl,rfl,q⟩:=q; cases e; exact ⟨Or.inr hd,Option.isSome_iff_exists.mp q⟩
    · cases e
  · cases e
theorem idx_get {x : String × String} : ∀ {l : List (String × String)} {j : Nat},idx x l = some j→l[j]? = some x
  | [],_,h => by cases h
  | y::r,j,h => by
    unfold idx at h
    split at h
    · rename_i q; cases h; simp [q]
    · obtain ⟨j',h',rfl⟩:=Option.map_eq_some_iff.mp h
      simpa using idx_get h'
theorem fidx_mem {j : Nat} (h : fidx ws C n t = some j) : (n,t) ∈ olay ws C:=List.mem_of_getElem? (idx_get h)
theorem fidx_inj {n' t' : String} {j : Nat} (h : fidx ws C n t = some j) (h' : fidx ws C n' t' = some j) : n = n'∧t = t':=by
  have:=(idx_get h).symm.trans (idx_get h')
  simpa using this
theorem gfR_some {j : Nat} (h : gfR ws own i = some (C,j)) : ∃ n t,rFld ws own i = some (C,n,t)∧fidx ws C n t = some j:=by
  unfold gfR at h
  split at h
  · rename_i C' n' t' q
    obtain ⟨j',h',e⟩:=Option.map_eq_some_iff.mp h
    cases e; exact ⟨_,_,q,h'⟩
  · cases h
theorem pfR_some {mn : String} {j : Nat} {ty : FieldType} (h : pfR ws own mn i = some (C,j,ty)) : ∃ n t,rFld ws own i = some (C,n,t)∧fidx ws C n t = some j∧parseFieldDescriptor t = some ty ∧
    (Jvm.Cond.lays C C n t ∈ ws ∨ (Jvm.Cond.laysFinal C C n t ∈ ws∧own = C∧mn = "<init>"))∧(∃ k,Jvm.Cond.instantiable C k ∈ ws)∧∀ n' t',(n',t') ∈ olay ws C→n' ≠ n ∨ t' = t:=by
  unfold pfR at h
  split at h
  · rename_i C' n' t' q
    split at h
    · rename_i j' ty' q1 q2
      split at h
      · rename_i g
        cases h
        simp only [Bool.and_eq_true,Bool.or_eq_true,beq_iff_eq,List.all_eq_true,bne_iff_ne,ne_eq] at g
        obtain ⟨⟨g1,g2⟩,g3⟩:=g
        obtain ⟨k,hk⟩:=Option.isSome_iff_exists.mp g2
        refine ⟨n',t',q,q1,q2,?_,⟨k,rInst_mem hk⟩,fun a b hab => g3 (a,b) hab⟩
        rcases g1 with g1 | ⟨⟨g1,g4⟩,g5⟩
        · exact Or.inl (hasLays_mem g1)
        · exact Or.inr ⟨hasLaysF_mem g1,g4,g5⟩
      · cases h
    · cases h
  · cases h
end Res
end Jvm.Own
namespace Jvm.Own
open Sem ClassFile Op Lib Jvm.Stand Jvm.Free Jvm.LawKit Jvm.RoadKit
abbrev XR:=Option (Nat × List Slot × List Value)
def chk {α : Type} (a b : Nat) (x : Option α) : Option α:=if a = b then x else none
def isI : Value→Bool | .int _ => true | _ => false
def isL : Value→Bool | .long _ => true | _ => false
def stl (ls : List Slot) (i : Nat) (v : Value) : Option (List Slot):=(storeLocals ls.toArray i v).map Array.toList
def ldV (p : Value→Bool) (nx i : Nat) (ls : List Slot) (st : List Value) : XR :=
  match ls[i]? with
  | some (.val v) => if p v = true then some (nx,ls,v::st) else none
  | _ => none
def stV (p : Value→Bool) (nx i : Nat) (ls : List Slot) : List Value→XR
  | v::r => if p v = true then (stl ls i v).map fun l' => (nx,l',r) else none
  | [] => none
def b2 (f : Int32→Int32→Int32) (nx : Nat) (ls : List Slot) : List Value→XR
  | .int y::.int x::r => some (nx,ls,.int (f x y)::r)
  | _ => none
def d2 (f : Int32→Int32→Int32) (nx : Nat) (ls : List Slot) : List Value→XR
  | .int y::.int x::r => if y = 0 then none else some (nx,ls,.int (f x y)::r)
  | _ => none
def u1 (f : Int32→Int32) (nx : Nat) (ls : List Slot) : List Value→XR
  | .int x::r => some (nx,ls,.int (f x)::r)
  | _ => none
def l2 (f : Int64→Int64→Int64) (nx : Nat) (ls : List Slot) : List Value→XR
  | .long y::.long x::r => some (nx,ls,.long (f x y)::r)
  | _ => none
def lsh (f : Int64→Int32→Int64) (nx : Nat) (ls : List Slot) : List Value→XR
  | .int y::.long x::r => some (nx,ls,.long (f x y)::r)
  | _ => none
def jmp (pc : Nat) (o : Int) : Option Nat:=if 0≤(pc : Int) + o then some ((pc : Int) + o).toNat else none
def br (c : Bool) (pc : Nat) (o : Int) (ls : List Slot) (r : List Value) : XR :=
  if c = true then (jmp pc o).map fun q => (q,ls,r) else some (pc + 3,ls,r)
def sw (pc : Nat) (dflt low high : Int) (offs : Array Int) (ls : List Slot) : List Value→XR
  | .int i::r => if i.toInt < low ∨ i.toInt > high then (jmp pc dflt).map fun q => (q,ls,r) else
      match offs[(i.toInt - low).toNat]? with
      | some o => (jmp pc o).map fun q => (q,ls,r)
      | none => none
  | _ => none
def xstep (ins : Instr) (len pc : Nat) (ls : List Slot) (st : List Value) : XR :=
  match ins with
  | .aload_n i => chk len 1 (ldV Value.isRef (pc + 1) i.val ls st)
  | .aload i => chk len 2 (ldV Value.isRef (pc + 2) i ls st)
  | .iload_n i => chk len 1 (ldV isI (pc + 1) i.val ls st)
  | .iload i => chk len 2 (ldV isI (pc + 2) i ls st)
  | .lload_n i => chk len 1 (ldV isL (pc + 1) i.val ls st)
  | .lload i => chk len 2 (ldV isL (pc + 2) i ls st)
  | .astore_n i => chk len 1 (stV Value.isRef (pc + 1) i.val ls st)
  | .astore i => chk len 2 (stV Value.isRef (pc + 2) i ls st)
  | .istore_n i => chk len 1 (stV isI (pc + 1) i.val ls st)
  | .istore i => chk len 2 (stV isI (pc + 2) i ls st)
  | .lstore_n i => chk len 1 (stV isL (pc + 1) i.val ls st)
  | .lstore i => chk len 2 (stV isL (pc + 2) i ls st)
  | .iconst i => chk len 1 (some (pc + 1,ls,.int (Int32.ofInt i)::st))
  | .bipush i => chk len 2 (some (pc + 2,ls,.int (Int8.ofInt i).toInt32::st))
  | .sipush i => chk len 3 (some (pc + 3,ls,.int (Int16.ofInt i).toInt32::st))
  | .lconst i => chk len 1 (some (pc + 1,ls,.long (Int64.ofNat i)::st))
  | .iadd => chk len 1 (b2 (fun x y => x + y) (pc + 1) ls st)
  | .isub => chk len 1 (b2 (fun x y => x - y) (pc + 1) ls st)
  | .imul => chk len 1 (b2 (fun x y => x * y) (pc + 1) ls st)
  | .iand => chk len 1 (b2 (fun x y => x &&& y) (pc + 1) ls st)
  | .ior => chk len 1 (b2 (fun x y => x ||| y) (pc + 1) ls st)
  | .ixor => chk len 1 (b2 (fun x y => x ^^^ y) (pc + 1) ls st)
  | .ishl => chk len 1 (b2 (fun x y => x <<< (y &&& 31)) (pc + 1) ls st)
  | .ishr => chk len 1 (b2 (fun x y => x >>> (y &&& 31)) (pc + 1) ls st)
  | .iushr => chk len 1 (b2 XT.ushr (pc + 1) ls st)
  | .idiv => chk len 1 (d2 (fun x y => x / y) (pc + 1) ls st)
  | .irem => chk len 1 (d2 (fun x y => x % y) (pc + 1) ls st)
  | .ineg => chk len 1 (u1 (fun x => -x) (pc + 1) ls st)
  | .i2b => chk len 1 (u1 (fun x => x.toInt8.toInt32) (pc + 1) ls st)
  | .i2c => chk len 1 (u1 (fun x => x.toUInt32.toUInt16.toUInt32.toInt32) (pc + 1) ls st)
  | .ladd => chk len 1 (l2 (fun x y => x + y) (pc + 1) ls st)
  | .lsub => chk len 1 (l2 (fun x y => x - y) (pc + 1) ls st)
  | .lmul => chk len 1 (l2 (fun x y => x * y) (pc + 1) ls st)
  | .land => chk len 1 (l2 (fun x y => x &&& y) (pc + 1) ls st)
  | .lor => chk len 1 (l2 (fun x y => x ||| y) (pc + 1) ls st)
  | .lxor => chk len 1 (l2 (fun x y => x ^^^ y) (pc + 1) ls st)
  | .lshl => chk len 1 (lsh (fun x y => x <<< (y.toInt64 &&& 63)) (pc + 1) ls st)
  | .lshr => chk len 1 (lsh (fun x y => x >>> (y.toInt64 &&& 63)) (pc + 1) ls st)
  | .lushr => chk len 1 (lsh XT.ushrL (pc + 1) ls st)
  | .lneg => chk len 1 (match st with | .long x::r => some (pc + 1,ls,.long (-x)::r) | _ => none)
  | .i2l => chk len 1 (match st with | .int x::r => some (pc + 1,ls,.long x.toInt64::r) | _ => none)
  | .l2i => chk len 1 (match st with | .long x::r => some (pc + 1,ls,.int x.toInt32::r) | _ => none)
  | .lcmp => chk len 1 (match st with | .long y::.long x::r => some (pc + 1,ls,.int (XT.cmpL x y)::r) | _ => none)
  | .iinc i cst => chk len 3 (match ls[i]? with | some (.val (.int x)) => (stl ls i (.int (x + Int32.ofInt cst))).map fun l' => (pc + 3,l',st) | _ => none)
  | .dup => chk len 1 (match st with | x::r => if x.category = 1 then some (pc + 1,ls,x::x::r) else none | _ => none)
  | .dup2 => chk len 1 (match st with
      | .long x::r => some (pc + 1,ls,.long x::.long x::r)
      | x::y::r => if x.category = 1∧y.category = 1 then some (pc + 1,ls,x::y::x::y::r) else none
      | _ => none)
  | .pop => chk len 1 (match st with | x::r => if x.category = 1 then some (pc + 1,ls,r) else none | _ => none)
  | .goto o => chk len 3 ((jmp pc o).map fun q => (q,ls,st))
  | .ifCond cd o => chk len 3 (match st with | .int x::r => br (ifCond.holds cd x) pc o ls r | _ => none)
  | .if_icmp cd o => chk len 3 (match st with | .int y::.int x::r => br (if_icmp.holds cd x y) pc o ls r | _ => none)
  | .tableswitch dflt low high offs => sw pc dflt low high offs ls st
  | _ => none
abbrev HR:=Option (Nat × List Value × AHeap)
def putv : FieldType→Value→Option Value
  | .int,.int x => some (.int x)
  | .boolean,.int x => some (.int (nar .boolean x))
  | .byte,.int x => some (.int (nar .byte x))
  | .char,.int x => some (.int (nar .char x))
  | .short,.int x => some (.int (nar .short x))
  | .long,.long x => some (.long x)
  | .array _,.ref a => some (.ref a)
  | _,_ => none
def dflt (q : String × String) : Value:=match parseFieldDescriptor q.2 with | some ty => defaultValue ty | none => .null
def hGet (ws : Ws) (own : String) (i pc : Nat) (H : AHeap) : List Value→HR
  | .ref a::r =>
    match gfR ws own i,H[a]? with
    | some (C,j),some (.object C',vs) => if C = C' then (vs[j]?).map fun v => (pc + 3,v::r,H) else none
    | _,_ => none
  | _ => none
def hPut (ws : Ws) (k : Nat) (own mn : String) (i pc : Nat) (H : AHeap) : List Value→HR
  | v::.ref a::r =>
    match pfR ws own mn i,H[a]? with
    | some (C,j,ty),some (.object C',vs) => if C = C'∧k≤a∧j < vs.length then (putv ty v).map fun v' => (pc + 3,r,H.set a (.object C',vs.set j v')) else none
    | _,_ => none
  | _ => none
def hNew (ws : Ws) (own : String) (i pc : Nat) (H : AHeap) (st : List Value) : HR :=
  match rCls ws own i with
  | some C => if (rInst ws C).isSome = true∧hasInit ws C = true then some (pc + 3,.ref H.length::st,H ++ [(.object C,(olay ws C).map dflt)]) else none
  | none => none
def hNewA (ws : Ws) (aty : ArrayType) (pc : Nat) (H : AHeap) : List Value→HR
  | .int n::r => if hasArr ws (newarray.typeOf aty) = true∧¬ n < 0∧n.toNatClampNeg * 8≤536870912 then
      some (pc + 2,.ref H.length::r,H ++ [(.array (newarray.typeOf aty),List.replicate n.toNatClampNeg (defaultValue (newarray.typeOf aty)))]) else none
  | _ => none
def hLd (ok : FieldType→Bool) (pc : Nat) (H : AHeap) : List Value→HR
  | .int j::.ref a::r =>
    match H[a]? with
    | some (.array ty,vs) => if ok ty = true∧¬ j < 0 then (vs[j.toNatClampNeg]?).map fun v => (pc + 1,v::r,H) else none
    | _ => none
  | _ => none
def hSt (ok : FieldType→Bool) (k pc : Nat) (H : AHeap) : List Value→HR
  | v::.int j::.ref a::r =>
    match H[a]? with
    | some (.array ty,vs) => if ok ty = true∧k≤a∧¬ j < 0∧j.toNatClampNeg < vs.length then (putv ty v).map fun v' => (pc + 1,r,H.set a (.array ty,vs.set j.toNatClampNeg v')) else none
    | _ => none
  | _ => none
def hLen (pc : Nat) (H : AHeap) : List Value→HR
  | .ref a::r =>
    match H[a]? with
    | some (.array _,vs) => some (pc + 1,.int vs.length.toInt32::r,H)
    | _ => none
  | _ => none
def okT (t u : FieldType) : Bool:=decide (u = t)
def okB (u : FieldType) : Bool:=decide (u = .byte) || decide (u = .boolean)
def hstep (ws : Ws) (k : Nat) (y : MethodName) (ins : Instr) (len pc : Nat) (st : List Value) (H : AHeap) : HR :=
  match ins with
  | .getfield i => chk len 3 (hGet ws y.cls i pc H st)
  | .putfield i => chk len 3 (hPut ws k y.cls y.name i pc H st)
  | .new i => chk len 3 (hNew ws y.cls i pc H st)
  | .newarray aty => chk len 2 (hNewA ws aty pc H st)
  | .iaload => chk len 1 (hLd (okT .int) pc H st)
  | .caload => chk len 1 (hLd (okT .char) pc H st)
  | .laload => chk len 1 (hLd (okT .long) pc H st)
  | .baload => chk len 1 (hLd okB pc H st)
  | .iastore => chk len 1 (hSt (okT .int) k pc H st)
  | .castore => chk len 1 (hSt (okT .char) k pc H st)
  | .lastore => chk len 1 (hSt (okT .long) k pc H st)
  | .bastore => chk len 1 (hSt okB k pc H st)
  | .arraylength => chk len 1 (hLen pc H st)
  | .ldc i => chk len 2 ((rCon ws y.cls i).map fun v => (pc + 2,.int v::st,H))
  | .ldc_w i => chk len 3 ((rCon ws y.cls i).map fun v => (pc + 3,.int v::st,H))
  | .ldc2_w i => chk len 3 ((rConL ws y.cls i).map fun v => (pc + 3,.long v::st,H))
  | _ => none
def ent : List Value→List Slot
  | [] => []
  | v::r => if v.category = 2 then .val v::.second::ent r else .val v::ent r
def entry (as : List Value) (mx : Nat) : List Slot:=ent as ++ List.replicate (mx - (ent as).length) .unset
def wsum (st : List Value) : Nat:=(st.map fun v => v.category).sum
abbrev Dn:=List (MethodName × Nat × Nat)
def dnOf (dn : Dn) (y : MethodName) : Option (Nat × Nat):=dn.findSome? fun q => if q.1 = y then some q.2 else none
def cR (ws : Ws) (dn : Dn) (y : MethodName) (i : Nat) : Option (MethodName × ByteArray × Nat × Option FieldType × Nat × Nat) :=
  match rMth ws y.cls i with
  | none => none
  | some y' =>
    match rCode ws y',dnOf dn y',dnOf dn y,parseMethodDescriptor y'.desc with
    | some (b,mx,r),some (f',l'),some (f,l),some sig =>
      if hasInit ws y'.cls = true∧Jvm.plainName y'.cls = true∧y'.cls ≠ "java/lang/invoke/MethodHandle" ∧ y'.cls ≠ "java/lang/invoke/VarHandle" ∧ f' + 1≤f∧mx + 11 + l'≤l then
        some (y',b,mx,r,sig.parameters.length,l - (mx + 11 + l')) else none
    | _,_,_,_ => none
def sR (ws : Ws) (dn : Dn) (y : MethodName) (i : Nat) : Option (MethodName × ByteArray × Nat × Option FieldType × Nat × Nat) :=
  match cR ws dn y i with
  | some q => if hasStat ws q.1 = true then some q else none
  | none => none
def nR (ws : Ws) (dn : Dn) (y : MethodName) (i : Nat) : Option (MethodName × ByteArray × Nat × Option FieldType × Nat × Nat) :=
  match cR ws dn y i with
  | some q => if q.1.name = "<init>" ∧ hasIM ws q.1 = true∧q.2.2.2.1 = none then some q else none
  | none => none
def vR (ws : Ws) (dn : Dn) (y : MethodName) (i : Nat) : Option (Bool × MethodName × ByteArray × Nat × Option FieldType × Nat × Nat) :=
  match cR ws dn y i with
  | some q => if hasIM ws q.1 = true then
      (if hasPriv ws q.1 = true∧(rInst ws q.1.cls).isSome = true then some (true,q) else if hasDecl ws q.1 = true∧hasSel ws q.1 = true then some (false,q) else none) else none
  | none => none
def oR (ws : Ws) (dn : Dn) (y : MethodName) (i : Nat) : Option Nat :=
  match rMth ws y.cls i,rCode ws Lib.objectInit,dnOf dn y with
  | some y',some (b,mx,r),some (f,l) =>
    if y' = Lib.objectInit∧hasIM ws Lib.objectInit = true∧b.data = #[0xb1]∧mx = 1∧r = none∧1≤f∧12≤l then some (l - 12) else none
  | _,_,_ => none
abbrev Call:=MethodName × ByteArray × Option FieldType × List Slot × List Value
def cstep (ws : Ws) (dn : Dn) (y : MethodName) (ret : Option FieldType) (ins : Instr) (len pc : Nat) (ls : List Slot) (st : List Value) (H : AHeap) : Option (Option Value ⊕ (Nat × List Slot × List Value × AHeap) ⊕ Call) :=
  match ins with
  | .ireturn => chk len 1 (match st,ret with
      | .int z::_,some t => if t = .int ∨ t = .boolean ∨ t = .byte ∨ t = .char ∨ t = .short then some (.inl (some (.int (nar t z)))) else none
      | _,_ => none)
  | .lreturn => chk len 1 (match st,ret with
      | [.long z],some .long => some (.inl (some (.long z)))
      | _,_ => none)
  | .return_ => chk len 1 (match st,ret with
      | [],none => some (.inl none)
      | _,_ => none)
  | .invokestatic i => chk len 3 (match sR ws dn y i with
      | some (y',b,mx,r,na,sl) =>
        if na≤st.length∧wsum (st.drop na)≤sl∧(ent (st.take na).reverse).length≤mx then
          some (.inr (.inr (y',b,r,entry (st.take na).reverse mx,st.drop na)))
        else none
      | none => none)
  | .invokespecial i => chk len 3 (match oR ws dn y i with
      | some sl => (match st with
          | .ref _::r => if wsum r≤sl then some (.inr (.inl (pc + 3,ls,r,H))) else none
          | _ => none)
      | none => match nR ws dn y i with
        | some (y',b,mx,r,na,sl) =>
          (match st.drop na with
          | .ref a::rest =>
            if wsum rest≤sl∧(ent (.ref a::(st.take na).reverse)).length≤mx∧na≤st.length then
              some (.inr (.inr (y',b,r,entry (.ref a::(st.take na).reverse) mx,rest)))
            else none
          | _ => none)
        | none => none)
  | .invokevirtual i => chk len 3 (match vR ws dn y i with
      | some (pv,y',b,mx,r,na,sl) =>
        (match st.drop na with
        | .ref a::rest =>
          (match H[a]? with
          | some (.object C,_) =>
            if (pv = true ∨ C = y'.cls)∧wsum rest≤sl∧(ent (.ref a::(st.take na).reverse)).length≤mx∧na≤st.length then
              some (.inr (.inr (y',b,r,entry (.ref a::(st.take na).reverse) mx,rest)))
            else none
          | _ => none)
        | _ => none)
      | none => none)
  | _ => none
def act (ws : Ws) (dn : Dn) (k : Nat) (y : MethodName) (bytes : ByteArray) (ret : Option FieldType) (pc : Nat) (ls : List Slot) (st : List Value) (H : AHeap) : Option (Option Value ⊕ (Nat × List Slot × List Value × AHeap) ⊕ Call) :=
  match decode bytes pc with
  | .error _ => none
  | .ok (ins,len) =>
    match xstep ins len pc ls st with
    | some q => some (.inr (.inl (q.1,q.2.1,q.2.2,H)))
    | none => match hstep ws k y ins len pc st H with
      | some q => some (.inr (.inl (q.1,ls,q.2.1,q.2.2)))
      | none => cstep ws dn y ret ins len pc ls st H
def run (ws : Ws) (dn : Dn) (k : Nat) : Nat→MethodName→ByteArray→Option FieldType→Nat→List Slot→List Value→AHeap→Option (Option Value × AHeap)
  | 0,_,_,_,_,_,_,_ => none
  | n + 1,y,bytes,ret,pc,ls,st,H =>
    match act ws dn k y bytes ret pc ls st H with
    | none => none
    | some (.inl v) => some (v,H)
    | some (.inr (.inl (pc',ls',st',H'))) => run ws dn k n y bytes ret pc' ls' st' H'
    | some (.inr (.inr (y',b,r,en,rest))) =>
      match run ws dn k n y' b r 0 en [] H with
      | some (v,H1) => run ws dn k n y bytes ret (pc + 3) ls (v.toList ++ rest) H1
      | none => none
end Jvm.Own
namespace Jvm.Own
open Sem ClassFile Op Lib Jvm.Stand Jvm.Free Jvm.LawKit Jvm.RoadKit
def ren (f : Nat→Nat) : Value→Value
  | .ref a => .ref (f a)
  | v => v
def renS (f : Nat→Nat) : Slot→Slot
  | .val v => .val (ren f v)
  | s => s
abbrev fr (f : Nat→Nat) (m : MethodId) (pc : Nat) (ls : List Slot) (st : List Value) : JFrame:=mkF m pc (ls.map (renS f)).toArray (st.map (ren f))
theorem ren_cat (f : Nat→Nat) (v : Value) : (ren f v).category = v.category:=by cases v <;> rfl
theorem ren_isRef (f : Nat→Nat) (v : Value) : (ren f v).isRef = v.isRef:=by cases v <;> rfl
theorem isI_int {v : Value} (h : isI v = true) : ∃ x,v = .int x:=by cases v <;> first | exact ⟨_,rfl⟩ | cases h
theorem isL_long {v : Value} (h : isL v = true) : ∃ x,v = .long x:=by cases v <;> first | exact ⟨_,rfl⟩ | cases h
theorem chk_some {α : Type} {a b : Nat} {x : Option α} {r : α} (h : chk a b x = some r) : a = b∧x = some r:=by
  unfold chk at h
  split at h
  · exact ⟨by assumption,h⟩
  · cases h
theorem loc_get {f : Nat→Nat} {ls : List Slot} {i : Nat} {s : Slot} (h : ls[i]? = some s) : ((ls.map (renS f)).toArray)[i]? = some (renS f s):=by
  rw [List.getElem?_toArray,List.getElem?_map,h]; rfl
theorem setAt_ren (f : Nat→Nat) (l : Array Slot) (i : Nat) (x : Slot) : setAt (l.map (renS f)) i (renS f x) = (setAt l i x).map fun a => a.map (renS f):=by
  unfold setAt
  rw [Array.size_map]
  split
  · rw [Option.map_some,Array.map_setIfInBounds]
  · rfl
theorem storeSelf_ren (f : Nat→Nat) (l : Array Slot) (i : Nat) (v : Value) : storeSelf (l.map (renS f)) i (ren f v) = (storeSelf l i v).map fun a => a.map (renS f):=by
  have h0 : setAt (l.map (renS f)) i (.val (ren f v)) = _:=setAt_ren f l i (.val v)
  simp only [storeSelf,h0,ren_cat]
  cases setAt l i (.val v) with
  | none => rfl
  | some l1 =>
    simp only [Option.map_some,Option.bind_eq_bind,Option.bind_some,bind_pure_comp]
    split
    · rw [Array.getElem?_map]
      cases l1[i + 1]? with
      | none => rfl
      | some s =>
        simp only [Option.map_some,Option.bind_some]
        cases s with
        | unset => exact setAt_ren f l1 (i + 1) .second
        | second => exact setAt_ren f l1 (i + 1) .second
        | val w =>
          simp only [renS,ren_cat]
          split
          · have h1 : setAt (l1.map (renS f)) (i + 2) .unset = _:=setAt_ren f l1 (i + 2) .unset
            rw [h1]
            cases setAt l1 (i + 2) .unset with
            | none => rfl
            | some l2 => exact setAt_ren f l2 (i + 1) .second
          · exact setAt_ren f l1 (i + 1) .second
    · rfl
theorem storeLocals_ren (f : Nat→Nat) (l : Array Slot) (i : Nat) (v : Value) : storeLocals (l.map (renS f)) i (ren f v) = (storeLocals l i v).map fun a => a.map (renS f):=by
  simp only [storeLocals,Array.getElem?_map]
  cases l[i]? with
  | none => rfl
  | some s =>
    simp only [Option.map_some,Option.bind_eq_bind,Option.bind_some]
    cases s with
    | unset => exact storeSelf_ren f l i v
    | second =>
      have h1 : setAt (l.map (renS f)) (i - 1) .unset = _:=setAt_ren f l (i - 1) .unset
      simp only [renS,h1]
      cases setAt l (i - 1) .unset with
      | none => rfl
      | some l2 => exact storeSelf_ren f l2 i v
    | val w =>
      simp only [renS,ren_cat]
      split
      · have h1 : setAt (l.map (renS f)) (i + 1) .unset = _:=setAt_ren f l (i + 1) .unset
        rw [h1]
        cases setAt l (i + 1) .unset with
        | none => rfl
        | some l2 => exact storeSelf_ren f l2 i v
      · exact storeSelf_ren f l i v
theorem stl_ren {f : Nat→Nat} {ls l' : List Slot} {i : Nat} {v : Value} (h : stl ls i v = some l') : storeLocals (ls.map (renS f)).toArray i (ren f v) = some (l'.map (renS f)).toArray:=by
  unfold stl at h
  obtain ⟨a,ha,rfl⟩:=Option.map_eq_some_iff.mp h
  have:=storeLocals_ren f ls.toArray i v
  rw [ha] at this
  rw [← List.map_toArray,this]
  simp [← Array.toList_inj]
theorem setAt_size {l l' : Array Slot} {i : Nat} {x : Slot} (h : setAt l i x = some l') : l'.size = l.size:=by
  unfold setAt at h
  split at h
  · cases h; simp
  · cases h
theorem storeSelf_size {l l' : Array Slot} {i : Nat} {v : Value} (h : storeSelf l i v = some l') : l'.size = l.size:=by
  simp only [storeSelf,Option.bind_eq_bind,Option.bind_eq_some_iff] at h
  obtain ⟨l1,h1,h⟩:=h
  have e1:=setAt_size h1
  split at h
  · obtain ⟨s,-,h⟩:=Option.bind_eq_some_iff.mp h
    split at h
    · split at h
      · obtain ⟨l2,h2,h⟩:=Option.bind_eq_some_iff.mp h
        rw [setAt_size h,setAt_size h2,e1]
      · rw [setAt_size h,e1]
    · rw [setAt_size h,e1]
  · cases h; exact e1
theorem storeLocals_size {l l' : Array Slot} {i : Nat} {v : Value} (h : storeLocals l i v = some l') : l'.size = l.size:=by
  simp only [storeLocals,Option.bind_eq_bind,Option.bind_eq_some_iff] at h
  obtain ⟨s,-,h⟩:=h
  split at h
  · obtain ⟨l2,h2,h⟩:=Option.bind_eq_some_iff.mp h
    rw [storeSelf_size h,setAt_size h2]
  · split at h
    · obtain ⟨l2,h2,h⟩:=Option.bind_eq_some_iff.mp h
      rw [storeSelf_size h,setAt_size h2]
    · exact storeSelf_size h
  · exact storeSelf_size h
theorem stl_size {ls l' : List Slot} {i : Nat} {v : Value} (h : stl ls i v = some l') : l'.length = ls.length:=by
  unfold stl at h
  obtain ⟨a,ha,rfl⟩:=Option.map_eq_some_iff.mp h
  have:=storeLocals_size ha
  simpa using this
theorem ldV_some {p : Value→Bool} {nx i : Nat} {ls : List Slot} {st : List Value} {q : Nat × List Slot × List Value} (h : ldV p nx i ls st = some q) : ∃ v,ls[i]? = some (.val v)∧p v = true∧q = (nx,ls,v::st):=by
  unfold ldV at h
  split at h
  · rename_i v hv
    split at h
    · cases h; exact ⟨v,hv,by assumption,rfl⟩
    · cases h
  · cases h
theorem stV_some {p : Value→Bool} {nx i : Nat} {ls : List Slot} {st : List Value} {q : Nat × List Slot × List Value} (h : stV p nx i ls st = some q) : ∃ v r l',st = v::r∧p v = true∧stl ls i v = some l'∧q = (nx,l',r):=by
  unfold stV at h
  split at h
  · split at h
    · obtain ⟨l',h1,h2⟩:=Option.map_eq_some_iff.mp h
      exact ⟨_,_,l',rfl,by assumption,h1,h2.symm⟩
    · cases h
  · cases h
theorem b2_some {f : Int32→Int32→Int32} {nx : Nat} {ls : List Slot} {st : List Value} {q : Nat × List Slot × List Value} (h : b2 f nx ls st = some q) : ∃ x y r,st = .int y::.int x::r∧q = (nx,ls,.int (f x y)::r):=by
  unfold b2 at h
  split at h
  · cases h; exact ⟨_,_,_,rfl,rfl⟩
  · cases h
theorem d2_some {f : Int32→Int32→Int32} {nx : Nat} {ls : List Slot} {st : List Value} {q : Nat × List Slot × List Value} (h : d2 f nx ls st = some q) : ∃ x y r,st = .int y::.int x::r∧y ≠ 0∧q = (nx,ls,.int (f x y)::r):=by
  unfold d2 at h
  split at h
  · split at h
    · cases h
    · cases h; exact ⟨_,_,_,rfl,by assumption,rfl⟩
  · cases h
theorem u1_some {f : Int32→Int32} {nx : Nat} {ls : List Slot} {st : List Value} {q : Nat × List Slot × List Value} (h : u1 f nx ls st = some q) : ∃ x r,st = .int x::r∧q = (nx,ls,.int (f x)::r):=by
  unfold u1 at h
  split at h
  · cases h; exact ⟨_,_,rfl,rfl⟩
  · cases h
theorem l2_some {f : Int64→Int64→Int64} {nx : Nat} {ls : List Slot} {st : List Value} {q : Nat × List Slot × List Value} (h : l2 f nx ls st = some q) : ∃ x y r,st = .long y::.long x::r∧q = (nx,ls,.long (f x y)::r):=by
  unfold l2 at h
  split at h
  · cases h; exact ⟨_,_,_,rfl,rfl⟩
  · cases h
theorem lsh_some {f : Int64→Int32→Int64} {nx : Nat} {ls : List Slot} {st : List Value} {q : Nat × List Slot × List Value} (h : lsh f nx ls st = some q) : ∃ x y r,st = .int y::.long x::r∧q = (nx,ls,.long (f x y)::r):=by
  unfold lsh at h
  split at h
  · cases h; exact ⟨_,_,_,rfl,rfl⟩
  · cases h
theorem jmp_some {pc q : Nat} {o : Int} (h : jmp pc o = some q) : 0≤(pc : Int) + o∧((pc : Int) + o).toNat = q:=by
  unfold jmp at h
  split at h
  · cases h; exact ⟨by assumption,rfl⟩
  · cases h
theorem br_some {c : Bool} {pc : Nat} {o : Int} {ls : List Slot} {r : List Value} {q : Nat × List Slot × List Value} (h : br c pc o ls r = some q) : (c = true∧∃ t,0≤(pc : Int) + o∧((pc : Int) + o).toNat = t∧q = (t,ls,r)) ∨ (c = false∧q = (pc + 3,ls,r)):=by
  unfold br at h
  split at h
  · obtain ⟨t,h1,h2⟩:=Option.map_eq_some_iff.mp h
    obtain ⟨h3,h4⟩:=jmp_some h1
    exact Or.inl ⟨by assumption,t,h3,h4,h2.symm⟩
  · rename_i hc; cases h; exact Or.inr ⟨by simpa using hc,rfl⟩
section X
variable {tb : Tables} [Ours tb] {e : Env} {below : List Frame} {T target : State} {m : MethodId} {c : Code}
set_option maxHeartbeats 4000000 in
theorem xstep_sound (h : At T m c below) (hx : tb.exec = Jvm.exec) (f : Nat→Nat) {ins : Instr} {len pc : Nat} {ls : List Slot} {st : List Value} {q : Nat × List Slot × List Value}
    (hd : decode c.code pc = .ok (ins,len)) (hs : xstep ins len pc ls st = some q) (hr : Steps tb e below (T.setTop (fr f m q.1 q.2.1 q.2.2)) target) : Steps tb e below (T.setTop (fr f m pc ls st)) target:=by
  unfold xstep at hs
  split at hs
  · obtain ⟨rfl,hs⟩:=chk_some hs; obtain ⟨v,h1,h2,rfl⟩:=ldV_some hs
    exact XS.aloadN h hx rfl hd (loc_get h1) (by rw [ren_isRef]; exact h2) hr
  · obtain ⟨rfl,hs⟩:=chk_some hs; obtain ⟨v,h1,h2,rfl⟩:=ldV_some hs
    exact XS.aload h hx rfl hd (loc_get h1) (by rw [ren_isRef]; exact h2) hr
  · obtain ⟨rfl,hs⟩:=chk_some hs; obtain ⟨v,h1,h2,rfl⟩:=ldV_some hs; obtain ⟨x,rfl⟩:=isI_int h2
    exact XS.iloadN h hx rfl hd (loc_get (f:=f) h1) hr
  · obtain ⟨rfl,hs⟩:=chk_some hs; obtain ⟨v,h1,h2,rfl⟩:=ldV_some hs; obtain ⟨x,rfl⟩:=isI_int h2
    exact XS.iload h hx rfl hd (loc_get (f:=f) h1) hr
  · obtain ⟨rfl,hs⟩:=chk_some hs; obtain ⟨v,h1,h2,rfl⟩:=ldV_some hs; obtain ⟨x,rfl⟩:=isL_long h2
    exact XT.lloadN h hx rfl hd (loc_get (f:=f) h1) hr
  · obtain ⟨rfl,hs⟩:=chk_some hs; obtain ⟨v,h1,h2,rfl⟩:=ldV_some hs; obtain ⟨x,rfl⟩:=isL_long h2
    exact XT.lload h hx rfl hd (loc_get (f:=f) h1) hr
  · obtain ⟨rfl,hs⟩:=chk_some hs; obtain ⟨v,r,l',rfl,h2,h3,rfl⟩:=stV_some hs
    exact XS.astoreN h hx rfl hd rfl (by rw [ren_isRef]; exact h2) (stl_ren h3) hr
  · obtain ⟨rfl,hs⟩:=chk_some hs; obtain ⟨v,r,l',rfl,h2,h3,rfl⟩:=stV_some hs
    exact XS.astore h hx rfl hd rfl (by rw [ren_isRef]; exact h2) (stl_ren h3) hr
  · obtain ⟨rfl,hs⟩:=chk_some hs; obtain ⟨v,r,l',rfl,h2,h3,rfl⟩:=stV_some hs; obtain ⟨x,rfl⟩:=isI_int h2
    exact XS.istoreN h hx rfl hd rfl (stl_ren (f:=f) h3) hr
  · obtain ⟨rfl,hs⟩:=chk_some hs; obtain ⟨v,r,l',rfl,h2,h3,rfl⟩:=stV_some hs; obtain ⟨x,rfl⟩:=isI_int h2
    exact XS.istore h hx rfl hd rfl (stl_ren (f:=f) h3) hr
  · obtain ⟨rfl,hs⟩:=chk_some hs; obtain ⟨v,r,l',rfl,h2,h3,rfl⟩:=stV_some hs; obtain ⟨x,rfl⟩:=isL_long h2
    exact XT.lstoreN h hx rfl hd rfl (stl_ren (f:=f) h3) hr
  · obtain ⟨rfl,hs⟩:=chk_some hs; obtain ⟨v,r,l',rfl,h2,h3,rfl⟩:=stV_some hs; obtain ⟨x,rfl⟩:=isL_long h2
    exact XT.lstore h hx rfl hd rfl (stl_ren (f:=f) h3) hr
  · obtain ⟨rfl,hs⟩:=chk_some hs; cases hs
    exact XS.iconst h hx rfl hd hr
  · obtain ⟨rfl,hs⟩:=chk_some hs; cases hs
    exact XS.bipush h hx rfl hd hr
  · obtain ⟨rfl,hs⟩:=chk_some hs; cases hs
    exact XS.sipush h hx rfl hd hr
  · obtain ⟨rfl,hs⟩:=chk_some hs; cases hs
    exact XT.lconst h hx rfl hd hr
  · obtain ⟨rfl,hs⟩:=chk_some hs; obtain ⟨x,y,r,rfl,rfl⟩:=b2_some hs
    exact XS.iadd h hx rfl hd rfl hr
  · obtain ⟨rfl,hs⟩:=chk_some hs; obtain ⟨x,y,r,rfl,rfl⟩:=b2_some hs
    exact XS.isub h hx rfl hd rfl hr
  · obtain ⟨rfl,hs⟩:=chk_some hs; obtain ⟨x,y,r,rfl,rfl⟩:=b2_some hs
    exact XS.imul h hx rfl hd rfl hr
  · obtain ⟨rfl,hs⟩:=chk_some hs; obtain ⟨x,y,r,rfl,rfl⟩:=b2_some hs
    exact XS.iand h hx rfl hd rfl hr
  · obtain ⟨rfl,hs⟩:=chk_some hs; obtain ⟨x,y,r,rfl,rfl⟩:=b2_some hs
    exact XT.ior h hx rfl hd rfl hr
  · obtain ⟨rfl,hs⟩:=chk_some hs; obtain ⟨x,y,r,rfl,rfl⟩:=b2_some hs
    exact XT.ixor h hx rfl hd rfl hr
  · obtain ⟨rfl,hs⟩:=chk_some hs; obtain ⟨x,y,r,rfl,rfl⟩:=b2_some hs
    exact XT.ishl h hx rfl hd rfl hr
  · obtain ⟨rfl,hs⟩:=chk_some hs; obtain ⟨x,y,r,rfl,rfl⟩:=b2_some hs
    exact XT.ishr h hx rfl hd rfl hr
  · obtain ⟨rfl,hs⟩:=chk_some hs; obtain ⟨x,y,r,rfl,rfl⟩:=b2_some hs
    exact XT.iushr h hx rfl hd rfl hr
  · obtain ⟨rfl,hs⟩:=chk_some hs; obtain ⟨x,y,r,rfl,h2,rfl⟩:=d2_some hs
    exact XS.idiv h hx rfl hd rfl h2 hr
  · obtain ⟨rfl,hs⟩:=chk_some hs; obtain ⟨x,y,r,rfl,h2,rfl⟩:=d2_some hs
    refine XS.irem h hx rfl hd rfl h2 ?_
    have q : x - x / y * y = x % y:=irem_eq_mod x y
    rw [q]; exact hr
  · obtain ⟨rfl,hs⟩:=chk_some hs; obtain ⟨x,r,rfl,rfl⟩:=u1_some hs
    exact XS.ineg h hx rfl hd rfl hr
  · obtain ⟨rfl,hs⟩:=chk_some hs; obtain ⟨x,r,rfl,rfl⟩:=u1_some hs
    exact XT.i2b h hx rfl hd rfl hr
  · obtain ⟨rfl,hs⟩:=chk_some hs; obtain ⟨x,r,rfl,rfl⟩:=u1_some hs
    exact XT.i2c h hx rfl hd rfl hr
  · obtain ⟨rfl,hs⟩:=chk_some hs; obtain ⟨x,y,r,rfl,rfl⟩:=l2_some hs
    exact XT.ladd h hx rfl hd rfl hr
  · obtain ⟨rfl,hs⟩:=chk_some hs; obtain ⟨x,y,r,rfl,rfl⟩:=l2_some hs
    exact XT.lsub h hx rfl hd rfl hr
  · obtain ⟨rfl,hs⟩:=chk_some hs; obtain ⟨x,y,r,rfl,rfl⟩:=l2_some hs
    exact XT.lmul h hx rfl hd rfl hr
  · obtain ⟨rfl,hs⟩:=chk_some hs; obtain ⟨x,y,r,rfl,rfl⟩:=l2_some hs
    exact XT.land h hx rfl hd rfl hr
  · obtain ⟨rfl,hs⟩:=chk_some hs; obtain ⟨x,y,r,rfl,rfl⟩:=l2_some hs
    exact XT.lor h hx rfl hd rfl hr
  · obtain ⟨rfl,hs⟩:=chk_some hs; obtain ⟨x,y,r,rfl,rfl⟩:=l2_some hs
    exact XT.lxor h hx rfl hd rfl hr
  · obtain ⟨rfl,hs⟩:=chk_some hs; obtain ⟨x,y,r,rfl,rfl⟩:=lsh_some hs
    exact XT.lshl h hx rfl hd rfl hr
  · obtain ⟨rfl,hs⟩:=chk_some hs; obtain ⟨x,y,r,rfl,rfl⟩:=lsh_some hs
    exact XT.lshr h hx rfl hd rfl hr
  · obtain ⟨rfl,hs⟩:=chk_some hs; obtain ⟨x,y,r,rfl,rfl⟩:=lsh_some hs
    exact XT.lushr h hx rfl hd rfl hr
  · obtain ⟨rfl,hs⟩:=chk_some hs
    split at hs
    · cases hs; exact XT.lneg h hx rfl hd rfl hr
    · cases hs
  · obtain ⟨rfl,hs⟩:=chk_some hs
    split at hs
    · cases hs; exact XT.i2l h hx rfl hd rfl hr
    · cases hs
  · obtain ⟨rfl,hs⟩:=chk_some hs
    split at hs
    · cases hs; exact XT.l2i h hx rfl hd rfl hr
    · cases hs
  · obtain ⟨rfl,hs⟩:=chk_some hs
    split at hs
    · cases hs; exact XT.lcmp h hx rfl hd rfl hr
    · cases hs
  · obtain ⟨rfl,hs⟩:=chk_some hs
    split at hs
    · rename_i x h1
      obtain ⟨l',h2,rfl⟩:=Option.map_eq_some_iff.mp hs
      exact XS.iinc h hx rfl hd (loc_get (f:=f) h1) (stl_ren (f:=f) h2) hr
    · cases hs
  · obtain ⟨rfl,hs⟩:=chk_some hs
    split at hs
    · split at hs
      · rename_i hc; cases hs; exact XS.dup h hx rfl hd rfl (by rw [ren_cat]; exact hc) hr
      · cases hs
    · cases hs
  · obtain ⟨rfl,hs⟩:=chk_some hs
    split at hs
    · cases hs; exact XT.dup2L h hx rfl hd rfl hr
    · split at hs
      · rename_i hc; cases hs; exact XT.dup2 h hx rfl hd rfl (by rw [ren_cat]; exact hc.1) (by rw [ren_cat]; exact hc.2) hr
      · cases hs
    · cases hs
  · obtain ⟨rfl,hs⟩:=chk_some hs
    split at hs
    · split at hs
      · rename_i hc; cases hs; exact XT.pop h hx rfl hd rfl (by rw [ren_cat]; exact hc) hr
      · cases hs
    · cases hs
  · obtain ⟨rfl,hs⟩:=chk_some hs
    obtain ⟨t,h1,rfl⟩:=Option.map_eq_some_iff.mp hs
    obtain ⟨h2,h3⟩:=jmp_some h1
    exact XS.goto h hx rfl rfl hd h2 h3 hr
  · obtain ⟨rfl,hs⟩:=chk_some hs
    split at hs
    · rcases br_some hs with ⟨hc,t,h1,h2,rfl⟩ | ⟨hc,rfl⟩
      · exact XS.ifYes h hx rfl rfl hd rfl hc h1 h2 hr
      · exact XS.ifNo h hx rfl hd rfl hc hr
    · cases hs
  · obtain ⟨rfl,hs⟩:=chk_some hs
    split at hs
    · rcases br_some hs with ⟨hc,t,h1,h2,rfl⟩ | ⟨hc,rfl⟩
      · exact XS.icmpYes h hx rfl rfl hd rfl hc h1 h2 hr
      · exact XS.icmpNo h hx rfl hd rfl hc hr
    · cases hs
  · unfold sw at hs
    split at hs
    · split at hs
      · rename_i hc
        obtain ⟨t,h1,rfl⟩:=Option.map_eq_some_iff.mp hs
        obtain ⟨h2,h3⟩:=jmp_some h1
        exact XS.tswOut h hx rfl rfl hd rfl hc h2 h3 hr
      · rename_i hc
        split at hs
        · rename_i o ho
          obtain ⟨t,h1,rfl⟩:=Option.map_eq_some_iff.mp hs
          obtain ⟨h2,h3⟩:=jmp_some h1
          exact XS.tswIn h hx rfl rfl hd rfl hc ho h2 h3 hr
        · cases hs
    · cases hs
  · cases hs
end X
theorem xstep_size {ins : Instr} {len pc : Nat} {ls : List Slot} {st : List Value} {q : Nat × List Slot × List Value} (hs : xstep ins len pc ls st = some q) : q.2.1.length = ls.length:=by
  unfold xstep at hs
  split at hs
  all_goals first
    | (obtain ⟨rfl,hs⟩:=chk_some hs; obtain ⟨v,h1,h2,rfl⟩:=ldV_some hs; rfl)
    | (obtain ⟨rfl,hs⟩:=chk_some hs; obtain ⟨v,r,l',rfl,h2,h3,rfl⟩:=stV_some hs; exact stl_size h3)
    | (obtain ⟨rfl,hs⟩:=chk_some hs; cases hs; rfl)
    | (obtain ⟨rfl,hs⟩:=chk_some hs; obtain ⟨x,y,r,rfl,rfl⟩:=b2_some hs; rfl)
    | (obtain ⟨rfl,hs⟩:=chk_some hs; obtain ⟨x,y,r,rfl,h2,rfl⟩:=d2_some hs; rfl)
    | (obtain ⟨rfl,hs⟩:=chk_some hs; obtain ⟨x,r,rfl,rfl⟩:=u1_some hs; rfl)
    | (obtain ⟨rfl,hs⟩:=chk_some hs; obtain ⟨x,y,r,rfl,rfl⟩:=l2_some hs; rfl)
    | (obtain ⟨rfl,hs⟩:=chk_some hs; obtain ⟨x,y,r,rfl,rfl⟩:=lsh_some hs; rfl)
    | (obtain ⟨rfl,hs⟩:=chk_some hs; split at hs <;> first | (cases hs; rfl) | (cases hs; done))
    | (obtain ⟨rfl,hs⟩:=chk_some hs; split at hs <;> first | (obtain ⟨l',h2,rfl⟩:=Option.map_eq_some_iff.mp hs; exact stl_size h2) | (cases hs; done))
    | (obtain ⟨rfl,hs⟩:=chk_some hs; split at hs <;> first | (split at hs <;> first | (cases hs; rfl) | (cases hs; done)) | (cases hs; rfl) | (cases hs; done))
    | (obtain ⟨rfl,hs⟩:=chk_some hs; obtain ⟨t,h1,rfl⟩:=Option.map_eq_some_iff.mp hs; rfl)
    | (obtain ⟨rfl,hs⟩:=chk_some hs; split at hs <;> first | (rcases br_some hs with ⟨hc,t,h1,h2,rfl⟩ | ⟨hc,rfl⟩ <;> rfl) | (cases hs; done))
    | (unfold sw at hs; split at hs <;> first | (cases hs; done) | (split at hs <;> first | (obtain ⟨t,h1,rfl⟩:=Option.map_eq_some_iff.mp hs; rfl) | (split at hs <;> first | (obtain ⟨t,h1,rfl⟩:=Option.map_eq_some_iff.mp hs; rfl) | (cases hs; done))))
    | (cases hs; done)
end Jvm.Own
namespace Jvm.Own
open Sem ClassFile Op Lib Jvm.Stand Jvm.Free Jvm.LawKit Jvm.RoadKit
def adr (k sa n0 i : Nat) : Nat:=if i < k then sa else n0 + (i - k)
def SimO (Z : State) (ws : Ws) (f : Nat→Nat) (h : Heap) (a : Addr) : FieldType × List Value→Prop
  | (.object C,vs) => Exa Z h a C∧∀ n t j,fidx ws C n t = some j→∃ v,vs[j]? = some v∧Fld Z h a C n t (ren f v)
  | (.array ty,vs) => ∃ c : Cell,Arr Z h a c ty∧c.slots = (vs.map (ren f)).toArray
  | _ => False
def Sim (Z : State) (ws : Ws) (k sa n0 : Nat) (H : AHeap) (h : Heap) : Prop :=
  h.size = n0 + (H.length - k)∧k≤H.length∧k≤1∧(1≤k→sa < n0)∧∀ i o,H[i]? = some o→SimO Z ws (adr k sa n0) h (adr k sa n0 i) o
def cost (ws : Ws) : FieldType × List Value→Nat
  | (.object C,_) => (rInst ws C).getD 0
  | (_,vs) => vs.length
def tot (ws : Ws) (H : AHeap) : Nat:=(H.map (cost ws)).sum
theorem adr_inj {k sa n0 i j : Nat} (hk : k≤1) (hs : 1≤k→sa < n0) (e : adr k sa n0 i = adr k sa n0 j) : i = j:=by
  unfold adr at e; split at e <;> split at e <;> omega
theorem adr_ge {k sa n0 a : Nat} (h : k≤a) : n0≤adr k sa n0 a:=by
  unfold adr; rw [if_neg (by omega)]; omega
theorem tot_app (ws : Ws) (H : AHeap) (o : FieldType × List Value) : tot ws (H ++ [o]) = tot ws H + cost ws o:=by simp [tot]
theorem tot_set {ws : Ws} : ∀ {H : AHeap} {a : Nat} {o o' : FieldType × List Value},H[a]? = some o→cost ws o' = cost ws o→tot ws (H.set a o') = tot ws H
  | [],_,_,_,h,_ => by cases h
  | x::r,0,o,o',h,e => by
    simp only [List.getElem?_cons_zero,Option.some.injEq] at h; subst h
    simp [tot,e]
  | x::r,a + 1,o,o',h,e => by
    have:=tot_set (ws:=ws) (H:=r) (a:=a) (o:=o) (o':=o') (by simpa using h) e
    simp only [tot,List.set_cons_succ,List.map_cons,List.sum_cons] at this ⊢
    rw [this]
theorem ren_dflt (f : Nat→Nat) (ty : FieldType) : ren f (defaultValue ty) = defaultValue ty:=by cases ty <;> rfl
section Facts
variable {Z : State} {ws : Ws} {f : Nat→Nat} {h h' : Heap} {a b : Addr} {o : FieldType × List Value} {sl : Nat} {v : Value}
theorem SimO.ext (E : Ext h h') (S : SimO Z ws f h a o) : SimO Z ws f h' a o:=by
  unfold SimO at S ⊢
  split at S
  · exact ⟨S.1.ext E,fun n t j q => by obtain ⟨v,h1,h2⟩:=S.2 n t j q; exact ⟨v,h1,h2.ext E⟩⟩
  · obtain ⟨c,h1,h2⟩:=S; exact ⟨c,h1.ext E,h2⟩
  · exact S.elim
theorem SimO.other (W : Wr h h' b sl v) (ne : a ≠ b) (S : SimO Z ws f h a o) : SimO Z ws f h' a o:=by
  unfold SimO at S ⊢
  split at S
  · exact ⟨S.1.wr W,fun n t j q => by obtain ⟨v,h1,h2⟩:=S.2 n t j q; exact ⟨v,h1,h2.other W (Or.inl ne)⟩⟩
  · obtain ⟨c,h1,h2⟩:=S; exact ⟨c,h1.other W ne,h2⟩
  · exact S.elim
theorem Sim.push {k sa n0 : Nat} {H : AHeap} (S : Sim Z ws k sa n0 H h) (E : Ext h h') (hz : h'.size = h.size + 1) (O : SimO Z ws (adr k sa n0) h' h.size o) : Sim Z ws k sa n0 (H ++ [o]) h':=by
  obtain ⟨h1,h2,h3,h4,h5⟩:=S
  refine ⟨by rw [hz,h1,List.length_append,List.length_singleton]; omega,by rw [List.length_append]; omega,h3,h4,fun i o' q => ?_⟩
  rcases Nat.lt_trichotomy i H.length with g | g | g
  · rw [List.getElem?_append_left g] at q; exact (h5 i o' q).ext E
  · subst g
    rw [List.getElem?_append_right (Nat.le_refl _),Nat.sub_self] at q
    cases q
    have e : adr k sa n0 H.length = h.size:=by unfold adr; rw [if_neg (by omega),h1]
    rw [e]; exact O
  · rw [List.getElem?_eq_none (by simp; omega)] at q; cases q
theorem Sim.next {k sa n0 : Nat} {H : AHeap} (S : Sim Z ws k sa n0 H h) : h.size = adr k sa n0 H.length:=by
  obtain ⟨h1,h2,-⟩:=S
  unfold adr; rw [if_neg (by omega),h1]
theorem Wr.upd {k sa n0 i : Nat} {H : AHeap} {o' : FieldType × List Value} (S : Sim Z ws k sa n0 H h) (W : Wr h h' (adr k sa n0 i) sl v) (O : SimO Z ws (adr k sa n0) h' (adr k sa n0 i) o') : Sim Z ws k sa n0 (H.set i o') h':=by
  obtain ⟨h1,h2,h3,h4,h5⟩:=S
  refine ⟨by rw [W.size,h1,List.length_set],by rw [List.length_set]; exact h2,h3,h4,fun j q hq => ?_⟩
  by_cases e : i = j
  · subst e
    rw [List.getElem?_set_self' ] at hq
    cases hi : H[i]? with
    | none => rw [hi] at hq; cases hq
    | some x => rw [hi] at hq; cases hq; exact O
  · rw [List.getElem?_set_ne e] at hq
    exact (h5 j q hq).other W fun g => e (adr_inj h3 h4 g).symm
end Facts
theorem putv_ok {ty : FieldType} {v v' : Value} (f : Nat→Nat) (h : putv ty v = some v') : narrow ty (ren f v) = ren f v'∧fits ty (ren f v') = true:=by
  unfold putv at h
  split at h
  · cases h; exact ⟨rfl,rfl⟩
  · cases h; exact ⟨rfl,fits_nar_bool _⟩
  · cases h; exact ⟨rfl,fits_nar_byte _⟩
  · cases h; exact ⟨rfl,fits_nar_char _⟩
  · cases h; exact ⟨rfl,fits_nar_short _⟩
  · cases h; exact ⟨rfl,rfl⟩
  · cases h; exact ⟨rfl,rfl⟩
  · cases h
theorem size_set (c : Cell) (j : Nat) (v : Value) (f : Nat→Nat) {vs : List Value} {v' : Value} (e : c.slots = (vs.map (ren f)).toArray) (q : v = ren f v') : (c.setSlot j v).slots = ((vs.set j v').map (ren f)).toArray:=by
  subst q
  show c.slots.setIfInBounds j (ren f v') = _
  rw [e,List.setIfInBounds_toArray,List.map_set]
section H
variable {p : Program} {l : Launch} {e : Env} {R : Room} {s : State} {m : MethodId} {args : Array Value} {below : List Frame} {meth : Method} {c : Code} {T : State} {locs : List Loc} {cells slots : Nat}
  {Z : State} {a0 : Array Value} {ws : Ws} {k sa n0 : Nat} {y : MethodName} {pc : Nat} {ls : List Slot} {st : List Value} {H : AHeap}
def Beh (p : Program) (l : Launch) (e : Env) (R : Room) (s : State) (m : MethodId) (args : Array Value) (below : List Frame) (meth : Method) (c : Code) (T : State) (Z : State) (ws : Ws) (k sa n0 cells slots : Nat) (H : AHeap) (g : JFrame) (pc' : Nat) (ls' : List Slot) (st' : List Value) (H' : AHeap) : Prop :=
  ∃ T' locs',Stand p l e R s m args below meth c T' locs' (cells + (H'.length - H.length)) (slots + (tot ws H' - tot ws H))∧Sim Z ws k sa n0 H' T'.heap∧Fr n0 locs' ∧
    ∀ target,Steps p.tables e below (T'.setTop (fr (adr k sa n0) m pc' ls' st')) target→Steps p.tables e below (T.setTop g) target
theorem Beh.stay {g : JFrame} {pc' : Nat} {st' : List Value} {T' : State} (X : Stand p l e R s m args below meth c T' locs cells slots) (S : Sim Z ws k sa n0 H T'.heap) (N : Fr n0 locs)
    (h : ∀ target,Steps p.tables e below (T'.setTop (fr (adr k sa n0) m pc' ls st')) target→Steps p.tables e below (T.setTop g) target) : Beh p l e R s m args below meth c T Z ws k sa n0 cells slots H g pc' ls st' H :=
  ⟨T',locs,by rw [Nat.sub_self,Nat.sub_self]; exact X,S,N,h⟩
theorem hGet_sound (hw : ∀ d ∈ ws,d.before a0 Z = true) (X : Stand p l e R s m args below meth c T locs cells slots) (hx : p.tables.exec = Jvm.exec) (hZ : Z.Warmed39 s.vm) (hown : s.vm.findClass y.cls = some m.cls)
    {i : Nat} (hd : decode c.code pc = .ok (.getfield i,3)) {q : Nat × List Value × AHeap} (hs : hGet ws y.cls i pc H st = some q) (S : Sim Z ws k sa n0 H T.heap) (N : Fr n0 locs) :
    Beh p l e R s m args below meth c T Z ws k sa n0 cells slots H (fr (adr k sa n0) m pc ls st) q.1 ls q.2.1 q.2.2:=by
  unfold hGet at hs
  split at hs
  · rename_i a r
    split at hs
    · rename_i C j C' vs q1 q2
      split at hs
      · rename_i hC; subst hC
        obtain ⟨v,hv,rfl⟩:=Option.map_eq_some_iff.mp hs
        obtain ⟨n,t,r1,r2⟩:=gfR_some q1
        obtain ⟨v',hv',F⟩:=(S.2.2.2.2 a _ q2).2 n t j r2
        cases hv.symm.trans hv'
        obtain ⟨T',X',e',st'⟩:=getF X hx hZ hown (host := "") (Or.inl (hw _ (rFld_mem r1))) Via.refl rfl F (g:=fr (adr k sa n0) m pc ls (.ref a::r)) rfl rfl hd
        exact Beh.stay X' (by rw [e']; exact S) N st'
      · cases hs
    · cases hs
  · cases hs
theorem hPut_sound (hw : ∀ d ∈ ws,d.before a0 Z = true) (X : Stand p l e R s m args below meth c T locs cells slots) (hx : p.tables.exec = Jvm.exec) (hZ : Z.Warmed39 s.vm) (hown : s.vm.findClass y.cls = some m.cls) (hnm : meth.name = y.name)
    {i : Nat} (hd : decode c.code pc = .ok (.putfield i,3)) {q : Nat × List Value × AHeap} (hs : hPut ws k y.cls y.name i pc H st = some q) (S : Sim Z ws k sa n0 H T.heap) (N : Fr n0 locs) :
    Beh p l e R s m args below meth c T Z ws k sa n0 cells slots H (fr (adr k sa n0) m pc ls st) q.1 ls q.2.1 q.2.2:=by
  unfold hPut at hs
  split at hs
  · rename_i v a r
    split at hs
    · rename_i C j ty C' vs q1 q2
      split at hs
      · rename_i hC; obtain ⟨rfl,hk,hj⟩:=hC
        obtain ⟨v',hv,rfl⟩:=Option.map_eq_some_iff.mp hs
        obtain ⟨n,t,r1,r2,r3,r4,⟨ki,r5⟩,r6⟩:=pfR_some q1
        have SO:=S.2.2.2.2 a _ q2
        obtain ⟨w,hw',F⟩:=SO.2 n t j r2
        obtain ⟨g1,g2⟩:=putv_ok (adr k sa n0) hv
        obtain ⟨T',h',X',e',W,st'⟩:=putFN X hx hZ hown (hw _ (rFld_mem r1)) Via.refl rfl F SO.1 (r4.imp (fun q => hw _ q) fun q => ⟨hw _ q.1,q.2.1,hnm.trans q.2.2⟩) (hw _ r5) r3 g1 g2 (g:=fr (adr k sa n0) m pc ls (v::.ref a::r)) rfl rfl hd
        have LL : ∀ {n' t' : String},(n',t') ∈ olay ws C→Laid Z a0 C C n' t':=fun q => (lay_mem q).1.imp (fun q => hw _ q) (fun q => hw _ q)
        have O' : SimO Z ws (adr k sa n0) h' (adr k sa n0 a) (.object C,vs.set j v'):=by
          refine ⟨SO.1.wr W,fun n' t' j' q' => ?_⟩
          obtain ⟨u,hu,F'⟩:=SO.2 n' t' j' q'
          by_cases ej : j = j'
          · subst ej
            obtain ⟨rfl,rfl⟩:=fidx_inj r2 q'
            exact ⟨v',by rw [List.getElem?_set_self hj],F.same W⟩
          · refine ⟨u,by rw [List.getElem?_set_ne ej]; exact hu,F'.other W (Or.inr ?_)⟩
            obtain ⟨-,ty',p'⟩:=lay_mem (fidx_mem q')
            refine slot_ne (LL (fidx_mem q')) (LL (fidx_mem r2)) (fun en => ?_) p' r3
            rcases r6 n' t' (fidx_mem q') with g | g
            · exact g en
            · subst en g; rw [r2] at q'; exact ej (Option.some.inj q')
        refine ⟨T',_,?_,by rw [e']; exact Wr.upd S W O',Fr.snoc X' N (adr_ge hk),st'⟩
        show Stand p l e R s m args below meth c T' _ (cells + ((H.set a (.object C,vs.set j v')).length - H.length)) (slots + (tot ws (H.set a (.object C,vs.set j v')) - tot ws H))
        rw [List.length_set,tot_set (o:=(.object C,vs)) (o':=(.object C,vs.set j v')) q2 rfl,Nat.sub_self,Nat.sub_self]
        exact X'
      · cases hs
    · cases hs
  · cases hs
theorem hNew_sound (hw : ∀ d ∈ ws,d.before a0 Z = true) (X : Stand p l e R s m args below meth c T locs cells slots) (hx : p.tables.exec = Jvm.exec) (hZ : Z.Warmed39 s.vm) (hown : s.vm.findClass y.cls = some m.cls)
    {i : Nat} (hd : decode c.code pc = .ok (.new i,3)) {q : Nat × List Value × AHeap} (hs : hNew ws y.cls i pc H st = some q) (S : Sim Z ws k sa n0 H T.heap) (N : Fr n0 locs)
    (hc : cells + (q.2.2.length - H.length)≤R.cells) (hl : slots + (tot ws q.2.2 - tot ws H)≤R.slots) (hz0 : T.heap.size = s.heap.size + cells) :
    Beh p l e R s m args below meth c T Z ws k sa n0 cells slots H (fr (adr k sa n0) m pc ls st) q.1 ls q.2.1 q.2.2:=by
  unfold hNew at hs
  split at hs
  · rename_i C q1
    split at hs
    · rename_i g; cases hs
      obtain ⟨ki,hki⟩:=Option.isSome_iff_exists.mp g.1
      have ec : (H ++ [(FieldType.object C,(olay ws C).map dflt)]).length - H.length = 1:=by simp
      have es : tot ws (H ++ [(FieldType.object C,(olay ws C).map dflt)]) - tot ws H = ki:=by
        rw [tot_app]; simp [cost,hki]
      dsimp only at hc hl ⊢
      rw [ec] at hc; rw [es] at hl
      have hz:=S.next
      obtain ⟨T',h',X',e',E,A,D,-,st'⟩:=newO X hx hZ hown (hw _ (rCls_mem q1)) (hw _ (rInst_mem hki)) (hw _ (hasInit_mem g.2)) rfl (g:=fr (adr k sa n0) m pc ls st) rfl hd hc hl
      have hz' : h'.size = T.heap.size + 1:=by
        have u1:=X'.heapSize
        have a1 : (T.heap.size : Nat) < h'.size:=A.lt
        rw [e'] at u1
        omega
      refine ⟨T',locs,by rw [ec,es]; exact X',?_,N,?_⟩
      · rw [e']
        refine S.push E hz' ⟨A,fun n t j q => ?_⟩
        have hm:=fidx_mem q
        obtain ⟨q2,ty,q3⟩:=lay_mem hm
        refine ⟨dflt (n,t),by rw [List.getElem?_map,idx_get q]; rfl,?_⟩
        have F:=D (O:=C) (nm:=n) (d:=t) (q2.imp (fun q => hw _ q) (fun q => hw _ q)) q3
        have e3 : ren (adr k sa n0) (dflt (n,t)) = defaultValue ty:=by simp only [dflt,q3,ren_dflt]
        rw [e3]; exact F
      · intro target ht
        rw [hz] at st'
        exact st' target ht
    · cases hs
  · cases hs
theorem hNewA_sound (hw : ∀ d ∈ ws,d.before a0 Z = true) (X : Stand p l e R s m args below meth c T locs cells slots) (hx : p.tables.exec = Jvm.exec) (hZ : Z.Warmed39 s.vm)
    {aty : ArrayType} (hd : decode c.code pc = .ok (.newarray aty,2)) {q : Nat × List Value × AHeap} (hs : hNewA ws aty pc H st = some q) (S : Sim Z ws k sa n0 H T.heap) (N : Fr n0 locs)
    (hc : cells + (q.2.2.length - H.length)≤R.cells) (hl : slots + (tot ws q.2.2 - tot ws H)≤R.slots) (hz0 : T.heap.size = s.heap.size + cells) :
    Beh p l e R s m args below meth c T Z ws k sa n0 cells slots H (fr (adr k sa n0) m pc ls st) q.1 ls q.2.1 q.2.2:=by
  unfold hNewA at hs
  split at hs
  · rename_i n r
    split at hs
    · rename_i g; cases hs
      obtain ⟨g1,g2,g3⟩:=g
      have ec : (H ++ [(FieldType.array (newarray.typeOf aty),List.replicate n.toNatClampNeg (defaultValue (newarray.typeOf aty)))]).length - H.length = 1:=by simp
      have es : tot ws (H ++ [(FieldType.array (newarray.typeOf aty),List.replicate n.toNatClampNeg (defaultValue (newarray.typeOf aty)))]) - tot ws H = n.toNatClampNeg:=by
        rw [tot_app]; simp [cost]
      dsimp only at hc hl ⊢
      rw [ec] at hc; rw [es] at hl
      have hz:=S.next
      obtain ⟨T',h',cA,X',e',E,A,st'⟩:=newP X hx hZ (hw _ (hasArr_mem g1)) rfl (g:=fr (adr k sa n0) m pc ls (.int n::r)) rfl hd rfl g2 (cap:=n.toNatClampNeg) (Nat.le_refl _) g3 hc hl
      have hz' : h'.size = T.heap.size + 1:=by
        have u1:=X'.heapSize
        have a1 : (T.heap.size : Nat) < h'.size:=A.lt
        rw [e'] at u1
        omega
      refine ⟨T',locs,by rw [ec,es]; exact X',?_,N,?_⟩
      · rw [e']
        refine S.push E hz' ⟨_,A,?_⟩
        simp [newA,ren_dflt]
      · intro target ht
        rw [hz] at st'
        exact st' target ht
    · cases hs
  · cases hs
theorem hLd_some {ok : FieldType→Bool} {q : Nat × List Value × AHeap} (hs : hLd ok pc H st = some q) : ∃ j a r ty vs v,st = .int j::.ref a::r∧H[a]? = some (.array ty,vs)∧ok ty = true∧¬ j < 0∧vs[j.toNatClampNeg]? = some v∧q = (pc + 1,v::r,H):=by
  unfold hLd at hs
  split at hs
  · split at hs
    · split at hs
      · rename_i g
        obtain ⟨v,h1,h2⟩:=Option.map_eq_some_iff.mp hs
        exact ⟨_,_,_,_,_,v,rfl,by assumption,g.1,g.2,h1,h2.symm⟩
      · cases hs
    · cases hs
  · cases hs
theorem hSt_some {ok : FieldType→Bool} {q : Nat × List Value × AHeap} (hs : hSt ok k pc H st = some q) : ∃ v j a r ty vs v',st = v::.int j::.ref a::r∧H[a]? = some (.array ty,vs)∧ok ty = true∧k≤a∧¬ j < 0∧j.toNatClampNeg < vs.length∧putv ty v = some v'∧q = (pc + 1,r,H.set a (.array ty,vs.set j.toNatClampNeg v')):=by
  unfold hSt at hs
  split at hs
  · split at hs
    · split at hs
      · rename_i g
        obtain ⟨v,h1,h2⟩:=Option.map_eq_some_iff.mp hs
        exact ⟨_,_,_,_,_,_,v,rfl,by assumption,g.1,g.2.1,g.2.2.1,g.2.2.2,h1,h2.symm⟩
      · cases hs
    · cases hs
  · cases hs
theorem hLen_some {q : Nat × List Value × AHeap} (hs : hLen pc H st = some q) : ∃ a r ty vs,st = .ref a::r∧H[a]? = some (.array ty,vs)∧q = (pc + 1,.int vs.length.toInt32::r,H):=by
  unfold hLen at hs
  split at hs
  · split at hs
    · cases hs; exact ⟨_,_,_,_,rfl,by assumption,rfl⟩
    · cases hs
  · cases hs
theorem st_beh {T' : State} {h' : Heap} {a j : Nat} {ty : FieldType} {vs : List Value} {v' : Value} {r : List Value} {g : JFrame} (X' : Stand p l e R s m args below meth c T' (locs ++ [⟨adr k sa n0 a,j⟩]) cells slots) (e' : T'.heap = h') (W : Wr T.heap h' (adr k sa n0 a) j (ren (adr k sa n0) v'))
    (S : Sim Z ws k sa n0 H T.heap) (N : Fr n0 locs) (q2 : H[a]? = some (.array ty,vs)) (hk : k≤a)
    (st' : ∀ target,Steps p.tables e below (T'.setTop (fr (adr k sa n0) m (pc + 1) ls r)) target→Steps p.tables e below (T.setTop g) target) :
    Beh p l e R s m args below meth c T Z ws k sa n0 cells slots H g (pc + 1) ls r (H.set a (.array ty,vs.set j v')):=by
  obtain ⟨cl,A,es⟩:=S.2.2.2.2 a _ q2
  refine ⟨T',_,?_,by rw [e']; exact Wr.upd S W ⟨_,A.same W,size_set cl j _ _ es rfl⟩,Fr.snoc X' N (adr_ge hk),st'⟩
  rw [List.length_set,tot_set (o:=(.array ty,vs)) (o':=(.array ty,vs.set j v')) q2 (by simp [cost]),Nat.sub_self,Nat.sub_self]
  exact X'
set_option maxHeartbeats 1000000 in
theorem hstep_sound (hw : ∀ d ∈ ws,d.before a0 Z = true) (X : Stand p l e R s m args below meth c T locs cells slots) (hx : p.tables.exec = Jvm.exec) (hZ : Z.Warmed39 s.vm) (hown : s.vm.findClass y.cls = some m.cls) (hnm : meth.name = y.name)
    {ins : Instr} {len : Nat} (hd : decode c.code pc = .ok (ins,len)) {q : Nat × List Value × AHeap} (hs : hstep ws k y ins len pc st H = some q) (S : Sim Z ws k sa n0 H T.heap) (N : Fr n0 locs)
    (hc : cells + (q.2.2.length - H.length)≤R.cells) (hl : slots + (tot ws q.2.2 - tot ws H)≤R.slots) (hz0 : T.heap.size = s.heap.size + cells) :
    Beh p l e R s m args below meth c T Z ws k sa n0 cells slots H (fr (adr k sa n0) m pc ls st) q.1 ls q.2.1 q.2.2:=by
  unfold hstep at hs
  split at hs
  · obtain ⟨rfl,hs⟩:=chk_some hs
    exact hGet_sound hw X hx hZ hown hd hs S N
  · obtain ⟨rfl,hs⟩:=chk_some hs
    exact hPut_sound hw X hx hZ hown hnm hd hs S N
  · obtain ⟨rfl,hs⟩:=chk_some hs
    exact hNew_sound hw X hx hZ hown hd hs S N hc hl hz0
  · obtain ⟨rfl,hs⟩:=chk_some hs
    exact hNewA_sound hw X hx hZ hd hs S N hc hl hz0
  · obtain ⟨rfl,hs⟩:=chk_some hs
    obtain ⟨j,a,r,ty,vs,v,rfl,q2,ho,hj,hv,rfl⟩:=hLd_some hs
    obtain rfl : ty = _:=of_decide_eq_true ho
    obtain ⟨cl,A,es⟩:=S.2.2.2.2 a _ q2
    have hlt:=(List.getElem?_eq_some_iff.mp hv).1
    exact Beh.stay X S N fun target ht => X.iaload hx (j:=j) (v:=ren (adr k sa n0) v) A.1 (State.isArrayOf_alike hZ.alike A.2.1) A.2.2 (fun g => g.elim hj fun g => by rw [es] at g; simp at g; omega) (by rw [es,List.getElem?_toArray,List.getElem?_map,hv]; rfl) (g:=fr (adr k sa n0) m pc ls (.int j::.ref a::r)) rfl rfl hd target ht
  · obtain ⟨rfl,hs⟩:=chk_some hs
    obtain ⟨j,a,r,ty,vs,v,rfl,q2,ho,hj,hv,rfl⟩:=hLd_some hs
    obtain rfl : ty = _:=of_decide_eq_true ho
    obtain ⟨cl,A,es⟩:=S.2.2.2.2 a _ q2
    have hlt:=(List.getElem?_eq_some_iff.mp hv).1
    exact Beh.stay X S N fun target ht => X.caload hx (j:=j) (v:=ren (adr k sa n0) v) A.1 (State.isArrayOf_alike hZ.alike A.2.1) A.2.2 (fun g => g.elim hj fun g => by rw [es] at g; simp at g; omega) (by rw [es,List.getElem?_toArray,List.getElem?_map,hv]; rfl) (g:=fr (adr k sa n0) m pc ls (.int j::.ref a::r)) rfl rfl hd target ht
  · obtain ⟨rfl,hs⟩:=chk_some hs
    obtain ⟨j,a,r,ty,vs,v,rfl,q2,ho,hj,hv,rfl⟩:=hLd_some hs
    obtain rfl : ty = _:=of_decide_eq_true ho
    obtain ⟨cl,A,es⟩:=S.2.2.2.2 a _ q2
    have hlt:=(List.getElem?_eq_some_iff.mp hv).1
    exact Beh.stay X S N fun target ht => X.laload hx (j:=j) (v:=ren (adr k sa n0) v) A.1 (State.isArrayOf_alike hZ.alike A.2.1) A.2.2 (fun g => g.elim hj fun g => by rw [es] at g; simp at g; omega) (by rw [es,List.getElem?_toArray,List.getElem?_map,hv]; rfl) (g:=fr (adr k sa n0) m pc ls (.int j::.ref a::r)) rfl rfl hd target ht
  · obtain ⟨rfl,hs⟩:=chk_some hs
    obtain ⟨j,a,r,ty,vs,v,rfl,q2,ho,hj,hv,rfl⟩:=hLd_some hs
    obtain ⟨cl,A,es⟩:=S.2.2.2.2 a _ q2
    have hlt:=(List.getElem?_eq_some_iff.mp hv).1
    simp only [okB,Bool.or_eq_true,decide_eq_true_eq] at ho
    rcases ho with rfl | rfl
    · exact Beh.stay X S N fun target ht => X.baloadBytes hx (j:=j) (v:=ren (adr k sa n0) v) A.1 (State.isArrayOf_alike hZ.alike A.2.1) A.2.2 (fun g => g.elim hj fun g => by rw [es] at g; simp at g; omega) (by rw [es,List.getElem?_toArray,List.getElem?_map,hv]; rfl) (g:=fr (adr k sa n0) m pc ls (.int j::.ref a::r)) rfl rfl hd target ht
    · exact Beh.stay X S N fun target ht => X.baloadBooleans hx (j:=j) (v:=ren (adr k sa n0) v) A.1 (State.isArrayOf_alike hZ.alike A.2.1) A.2.2 (fun g => g.elim hj fun g => by rw [es] at g; simp at g; omega) (by rw [es,List.getElem?_toArray,List.getElem?_map,hv]; rfl) (g:=fr (adr k sa n0) m pc ls (.int j::.ref a::r)) rfl rfl hd target ht
  · obtain ⟨rfl,hs⟩:=chk_some hs
    obtain ⟨v,j,a,r,ty,vs,v',rfl,q2,ho,hk,hj,hlt,hv,rfl⟩:=hSt_some hs
    obtain rfl : ty = _:=of_decide_eq_true ho
    obtain ⟨cl,A,es⟩:=S.2.2.2.2 a _ q2
    cases v <;> simp only [putv,Option.some.injEq,reduceCtorEq] at hv
    subst hv
    obtain ⟨T',h',X',e',W,st'⟩:=stI X hx hZ rfl A (j:=j) (fun g => g.elim hj fun g => by rw [es] at g; simp at g; omega) (g:=fr (adr k sa n0) m pc ls (.int _::.int j::.ref a::r)) rfl rfl hd
    exact st_beh X' e' W S N q2 hk st'
  · obtain ⟨rfl,hs⟩:=chk_some hs
    obtain ⟨v,j,a,r,ty,vs,v',rfl,q2,ho,hk,hj,hlt,hv,rfl⟩:=hSt_some hs
    obtain rfl : ty = _:=of_decide_eq_true ho
    obtain ⟨cl,A,es⟩:=S.2.2.2.2 a _ q2
    cases v <;> simp only [putv,Option.some.injEq,reduceCtorEq] at hv
    subst hv
    obtain ⟨T',h',X',e',W,st'⟩:=stC X hx hZ rfl A (j:=j) (fun g => g.elim hj fun g => by rw [es] at g; simp at g; omega) (g:=fr (adr k sa n0) m pc ls (.int _::.int j::.ref a::r)) rfl rfl hd
    exact st_beh X' e' W S N q2 hk st'
  · obtain ⟨rfl,hs⟩:=chk_some hs
    obtain ⟨v,j,a,r,ty,vs,v',rfl,q2,ho,hk,hj,hlt,hv,rfl⟩:=hSt_some hs
    obtain rfl : ty = _:=of_decide_eq_true ho
    obtain ⟨cl,A,es⟩:=S.2.2.2.2 a _ q2
    cases v <;> simp only [putv,Option.some.injEq,reduceCtorEq] at hv
    subst hv
    obtain ⟨T',h',X',e',W,st'⟩:=stJ X hx hZ rfl A (j:=j) (fun g => g.elim hj fun g => by rw [es] at g; simp at g; omega) (g:=fr (adr k sa n0) m pc ls (.long _::.int j::.ref a::r)) rfl rfl hd
    exact st_beh X' e' W S N q2 hk st'
  · obtain ⟨rfl,hs⟩:=chk_some hs
    obtain ⟨v,j,a,r,ty,vs,v',rfl,q2,ho,hk,hj,hlt,hv,rfl⟩:=hSt_some hs
    obtain ⟨cl,A,es⟩:=S.2.2.2.2 a _ q2
    simp only [okB,Bool.or_eq_true,decide_eq_true_eq] at ho
    rcases ho with rfl | rfl
    · cases v <;> simp only [putv,Option.some.injEq,reduceCtorEq] at hv
      subst hv
      obtain ⟨T',h',X',e',W,st'⟩:=stB X hx hZ rfl A (j:=j) (fun g => g.elim hj fun g => by rw [es] at g; simp at g; omega) (g:=fr (adr k sa n0) m pc ls (.int _::.int j::.ref a::r)) rfl rfl hd
      exact st_beh X' e' W S N q2 hk st'
    · cases v <;> simp only [putv,Option.some.injEq,reduceCtorEq] at hv
      subst hv
      obtain ⟨T',h',X',e',W,st'⟩:=stZ X hx hZ rfl A (j:=j) (fun g => g.elim hj fun g => by rw [es] at g; simp at g; omega) (g:=fr (adr k sa n0) m pc ls (.int _::.int j::.ref a::r)) rfl rfl hd
      exact st_beh X' e' W S N q2 hk st'
  · obtain ⟨rfl,hs⟩:=chk_some hs
    obtain ⟨a,r,ty,vs,rfl,q2,rfl⟩:=hLen_some hs
    obtain ⟨cl,A,es⟩:=S.2.2.2.2 a _ q2
    have ez : cl.slots.size = vs.length:=by rw [es]; simp
    refine Beh.stay X S N fun target ht => X.arraylength hx (cell:=cl) A.1 (State.isArrayOf_alike hZ.alike A.2.1) (g:=fr (adr k sa n0) m pc ls (.ref a::r)) rfl rfl hd target ?_
    rw [ez]; exact ht
  · obtain ⟨rfl,hs⟩:=chk_some hs
    obtain ⟨v,hv,rfl⟩:=Option.map_eq_some_iff.mp hs
    exact Beh.stay X S N (X.ldcInt hx hown (mvT hZ (hw _ (rCon_mem hv))) (g:=fr (adr k sa n0) m pc ls st) rfl hd)
  · obtain ⟨rfl,hs⟩:=chk_some hs
    obtain ⟨v,hv,rfl⟩:=Option.map_eq_some_iff.mp hs
    exact Beh.stay X S N (X.ldcwInt hx hown (mvT hZ (hw _ (rCon_mem hv))) (g:=fr (adr k sa n0) m pc ls st) rfl hd)
  · obtain ⟨rfl,hs⟩:=chk_some hs
    obtain ⟨v,hv,rfl⟩:=Option.map_eq_some_iff.mp hs
    exact Beh.stay X S N (X.ldc2Long hx hown (mvT hZ (hw _ (rConL_mem hv))) (g:=fr (adr k sa n0) m pc ls st) rfl hd)
  · cases hs
end H
theorem hstep_size {ws : Ws} {k : Nat} {y : MethodName} {ins : Instr} {len pc : Nat} {st : List Value} {H : AHeap} {q : Nat × List Value × AHeap} (hs : hstep ws k y ins len pc st H = some q) : H.length≤q.2.2.length∧tot ws H≤tot ws q.2.2:=by
  unfold hstep at hs
  split at hs
  · obtain ⟨rfl,hs⟩:=chk_some hs
    unfold hGet at hs
    split at hs
    · split at hs
      · split at hs
        · obtain ⟨v,-,rfl⟩:=Option.map_eq_some_iff.mp hs; exact ⟨Nat.le_refl _,Nat.le_refl _⟩
        · cases hs
      · cases hs
    · cases hs
  · obtain ⟨rfl,hs⟩:=chk_some hs
    unfold hPut at hs
    split at hs
    · split at hs
      · rename_i C j ty C' vs q1 q2
        split at hs
        · obtain ⟨v,-,rfl⟩:=Option.map_eq_some_iff.mp hs
          exact ⟨Nat.le_of_eq (by rw [List.length_set]),Nat.le_of_eq (tot_set (o:=(.object C',vs)) (o':=(.object C',vs.set j v)) q2 rfl).symm⟩
        · cases hs
      · cases hs
    · cases hs
  · obtain ⟨rfl,hs⟩:=chk_some hs
    unfold hNew at hs
    split at hs
    · split at hs
      · cases hs; exact ⟨by simp,by rw [tot_app]; omega⟩
      · cases hs
    · cases hs
  · obtain ⟨rfl,hs⟩:=chk_some hs
    unfold hNewA at hs
    split at hs
    · split at hs
      · cases hs; exact ⟨by simp,by rw [tot_app]; omega⟩
      · cases hs
    · cases hs
  all_goals first
    | (obtain ⟨rfl,hs⟩:=chk_some hs; obtain ⟨j,a,r,ty,vs,v,rfl,q2,ho,hj,hv,rfl⟩:=hLd_some hs; exact ⟨Nat.le_refl _,Nat.le_refl _⟩)
    | (obtain ⟨rfl,hs⟩:=chk_some hs; obtain ⟨v,j,a,r,ty,vs,v',rfl,q2,ho,hk,hj,hlt,hv,rfl⟩:=hSt_some hs; exact ⟨Nat.le_of_eq (by rw [List.length_set]),Nat.le_of_eq (tot_set (o:=(.array ty,vs)) (o':=(.array ty,vs.set _ v')) q2 (by simp [cost])).symm⟩)
    | (obtain ⟨rfl,hs⟩:=chk_some hs; obtain ⟨a,r,ty,vs,rfl,q2,rfl⟩:=hLen_some hs; exact ⟨Nat.le_refl _,Nat.le_refl _⟩)
    | (obtain ⟨rfl,hs⟩:=chk_some hs; obtain ⟨v,hv,rfl⟩:=Option.map_eq_some_iff.mp hs; exact ⟨Nat.le_refl _,Nat.le_refl _⟩)
    | (cases hs; done)
end Jvm.Own
namespace Jvm.Own
open Sem ClassFile Op Lib Jvm.Stand Jvm.Free Jvm.LawKit Jvm.RoadKit
theorem ent_ren (f : Nat→Nat) : ∀ as : List Value,ent (as.map (ren f)) = (ent as).map (renS f)
  | [] => rfl
  | v::r => by
    simp only [List.map_cons,ent,ren_cat,ent_ren f r]
    split <;> rfl
theorem fill_eq : ∀ (as : List Value) (acc : Array Slot),as.foldl (fun acc v => if v.category = 2 then (acc.push (.val v)).push .second else acc.push (.val v)) acc = acc ++ (ent as).toArray
  | [],acc => by simp [ent]
  | v::r,acc => by
    simp only [List.foldl_cons,ent]
    split
    · rw [fill_eq r]; simp [← Array.toList_inj]
    · rw [fill_eq r]; simp [← Array.toList_inj]
theorem entry_eq (f : Nat→Nat) (m : MethodId) (as : List Value) (mx : Nat) : entryFrame m (as.map (ren f)).toArray mx = fr f m 0 (entry as mx) []:=by
  have h : argsToLocals (as.map (ren f)).toArray mx = ((entry as mx).map (renS f)).toArray:=by
    unfold argsToLocals entry
    simp only [List.foldl_toArray']
    rw [fill_eq,ent_ren]
    simp [← Array.toList_inj,renS]
  unfold entryFrame
  rw [h]; rfl
theorem entry_len {as : List Value} {mx : Nat} (h : (ent as).length≤mx) : (entry as mx).length = mx:=by simp [entry]; omega
theorem wsum_ren (f : Nat→Nat) (st : List Value) : ((st.map (ren f)).map fun v => v.category).sum = wsum st:=by
  unfold wsum
  rw [List.map_map]
  congr 1
  apply List.map_congr_left
  intro v _
  exact ren_cat f v
section Inv
variable {ws : Ws} {dn : Dn} {k : Nat} {y : MethodName} {bytes : ByteArray} {ret : Option FieldType} {pc : Nat} {ls : List Slot} {st : List Value} {H : AHeap}
theorem cR_some {i : Nat} {y' : MethodName} {b : ByteArray} {mx na sl : Nat} {r : Option FieldType} (h : cR ws dn y i = some (y',b,mx,r,na,sl)) :
    Jvm.Cond.methodLink y.cls i y' ∈ ws∧Jvm.Cond.code y' b mx r ∈ ws∧Jvm.Cond.initialized y'.cls ∈ ws∧Jvm.plainName y'.cls = true∧(y'.cls ≠ "java/lang/invoke/MethodHandle" ∧ y'.cls ≠ "java/lang/invoke/VarHandle")∧rCode ws y' = some (b,mx,r) ∧
    ∃ f' l' f l sig,dnOf dn y' = some (f',l')∧dnOf dn y = some (f,l)∧parseMethodDescriptor y'.desc = some sig∧na = sig.parameters.length∧f' + 1≤f∧sl + (mx + 11) + l'≤l:=by
  unfold cR at h
  split at h
  · cases h
  · rename_i z q1
    split at h
    · rename_i b' mx' r' f' l' f l sig q2 q3 q4 q5
      split at h
      · rename_i g
        cases h
        obtain ⟨g1,g2,g3,g4,g5,g6⟩:=g
        exact ⟨rMth_mem q1,rCode_mem q2,hasInit_mem g1,g2,⟨g3,g4⟩,q2,f',l',f,l,sig,q3,q4,q5,rfl,g5,by omega⟩
      · cases h
    · cases h
theorem act_ret {v : Option Value} (h : act ws dn k y bytes ret pc ls st H = some (.inl v)) : (∃ z r t,decode bytes pc = .ok (.ireturn,1)∧st = .int z::r∧ret = some t∧(t = .int ∨ t = .boolean ∨ t = .byte ∨ t = .char ∨ t = .short)∧v = some (.int (nar t z))) ∨
    (∃ z,decode bytes pc = .ok (.lreturn,1)∧st = [.long z]∧ret = some .long∧v = some (.long z)) ∨ (decode bytes pc = .ok (.return_,1)∧st = []∧ret = none∧v = none):=by
  unfold act at h
  split at h
  · cases h
  rename_i ins len hd
  split at h
  · cases h
  split at h
  · cases h
  unfold cstep at h
  split at h
  · obtain ⟨rfl,h⟩:=chk_some h
    split at h
    · split at h
      · rename_i g; cases h; exact Or.inl ⟨_,_,_,hd,rfl,rfl,g,rfl⟩
      · cases h
    · cases h
  · obtain ⟨rfl,h⟩:=chk_some h
    split at h
    · cases h; exact Or.inr (Or.inl ⟨_,hd,rfl,rfl,rfl⟩)
    · cases h
  · obtain ⟨rfl,h⟩:=chk_some h
    split at h
    · cases h; exact Or.inr (Or.inr ⟨hd,rfl,rfl,rfl⟩)
    · cases h
  · obtain ⟨rfl,h⟩:=chk_some h
    split at h
    · split at h <;> cases h
    · cases h
  · obtain ⟨rfl,h⟩:=chk_some h
    split at h
    · split at h
      · split at h <;> cases h
      · cases h
    · split at h
      · split at h
        · split at h <;> cases h
        · cases h
      · cases h
  · obtain ⟨rfl,h⟩:=chk_some h
    split at h
    · split at h
      · split at h
        · split at h <;> cases h
        · cases h
      · cases h
    · cases h
  · cases h
theorem act_step {pc' : Nat} {ls' : List Slot} {st' : List Value} {H' : AHeap} (h : act ws dn k y bytes ret pc ls st H = some (.inr (.inl (pc',ls',st',H')))) : ∃ ins len,decode bytes pc = .ok (ins,len) ∧
    ((xstep ins len pc ls st = some (pc',ls',st')∧H' = H) ∨ (ls' = ls∧hstep ws k y ins len pc st H = some (pc',st',H')) ∨
     (∃ i sl a r,ins = .invokespecial i∧len = 3∧oR ws dn y i = some sl∧st = .ref a::r∧wsum r≤sl∧pc' = pc + 3∧ls' = ls∧st' = r∧H' = H)):=by
  unfold act at h
  split at h
  · cases h
  rename_i ins len hd
  refine ⟨ins,len,hd,?_⟩
  split at h
  · rename_i g; cases h; exact Or.inl ⟨g,rfl⟩
  split at h
  · rename_i g; cases h; exact Or.inr (Or.inl ⟨rfl,g⟩)
  unfold cstep at h
  split at h
  · obtain ⟨rfl,h⟩:=chk_some h
    split at h
    · split at h <;> cases h
    · cases h
  · obtain ⟨rfl,h⟩:=chk_some h
    split at h <;> cases h
  · obtain ⟨rfl,h⟩:=chk_some h
    split at h <;> cases h
  · obtain ⟨rfl,h⟩:=chk_some h
    split at h
    · split at h <;> cases h
    · cases h
  · obtain ⟨rfl,h⟩:=chk_some h
    split at h
    · rename_i sl ho
      split at h
      · split at h
        · rename_i g; cases h; exact Or.inr (Or.inr ⟨_,sl,_,_,rfl,rfl,ho,rfl,g,rfl,rfl,rfl,rfl⟩)
        · cases h
      · cases h
    · split at h
      · split at h
        · split at h <;> cases h
        · cases h
      · cases h
  · obtain ⟨rfl,h⟩:=chk_some h
    split at h
    · split at h
      · split at h
        · split at h <;> cases h
        · cases h
      · cases h
    · cases h
  · cases h
theorem act_call {y' : MethodName} {b : ByteArray} {r : Option FieldType} {en : List Slot} {rest : List Value} (h : act ws dn k y bytes ret pc ls st H = some (.inr (.inr (y',b,r,en,rest)))) : ∃ i mx na sl as,cR ws dn y i = some (y',b,mx,r,na,sl)∧en = entry as mx∧(ent as).length≤mx∧wsum rest≤sl ∧
    ((decode bytes pc = .ok (.invokestatic i,3)∧Jvm.Cond.static y' ∈ ws∧as.length = na∧st = as.reverse ++ rest) ∨
     (∃ a as',as = .ref a::as'∧as'.length = na∧st = as'.reverse ++ .ref a::rest∧Jvm.Cond.instanceMethod y' ∈ ws ∧
      ((decode bytes pc = .ok (.invokespecial i,3)∧y'.name = "<init>" ∧ r = none) ∨
       (decode bytes pc = .ok (.invokevirtual i,3)∧∃ C vs,H[a]? = some (.object C,vs)∧((Jvm.Cond.privateMethod y' ∈ ws∧∃ ki,Jvm.Cond.instantiable y'.cls ki ∈ ws) ∨ (Jvm.Cond.declares y' ∈ ws∧Jvm.Cond.selects y'.cls y' y' ∈ ws∧C = y'.cls)))))):=by
  unfold act at h
  split at h
  · cases h
  rename_i ins len hd
  split at h
  · cases h
  split at h
  · cases h
  unfold cstep at h
  split at h
  · obtain ⟨rfl,h⟩:=chk_some h
    split at h
    · split at h <;> cases h
    · cases h
  · obtain ⟨rfl,h⟩:=chk_some h
    split at h <;> cases h
  · obtain ⟨rfl,h⟩:=chk_some h
    split at h <;> cases h
  · rename_i i _ _
    obtain ⟨rfl,h⟩:=chk_some h
    split at h
    · rename_i y1 b1 mx r1 na sl hq
      split at h
      · rename_i g
        cases h
        unfold sR at hq
        split at hq
        · rename_i q hc
          split at hq
          · rename_i hs
            cases hq
            refine ⟨i,mx,na,sl,_,hc,rfl,g.2.2,g.2.1,Or.inl ⟨hd,hasStat_mem hs,by simp; omega,by simp⟩⟩
          · cases hq
        · cases hq
      · cases h
    · cases h
  · rename_i i _ _
    obtain ⟨rfl,h⟩:=chk_some h
    split at h
    · split at h
      · split at h <;> cases h
      · cases h
    · split at h
      · rename_i y1 b1 mx r1 na sl hq
        split at h
        · rename_i a rest' hdrop
          split at h
          · rename_i g
            cases h
            unfold nR at hq
            split at hq
            · rename_i q hc
              split at hq
              · rename_i hs
                cases hq
                refine ⟨i,mx,na,sl,_,hc,rfl,g.2.1,g.1,Or.inr ⟨a,_,rfl,by simp; omega,?_,hasIM_mem hs.2.1,Or.inl ⟨hd,hs.1,hs.2.2⟩⟩⟩
                rw [List.reverse_reverse,← hdrop,List.take_append_drop]
              · cases hq
            · cases hq
          · cases h
        · cases h
      · cases h
  · rename_i i _ _
    obtain ⟨rfl,h⟩:=chk_some h
    split at h
    · rename_i pv y1 b1 mx r1 na sl hq
      split at h
      · rename_i a rest' hdrop
        split at h
        · rename_i C vs hH
          split at h
          · rename_i g
            cases h
            unfold vR at hq
            split at hq
            · rename_i q hc
              split at hq
              · rename_i hs
                split at hq
                · rename_i hp; cases hq
                  obtain ⟨ki,hki⟩:=Option.isSome_iff_exists.mp hp.2
                  exact ⟨i,mx,na,sl,_,hc,rfl,g.2.2.1,g.2.1,Or.inr ⟨a,_,rfl,by simp; omega,by rw [List.reverse_reverse,← hdrop,List.take_append_drop],hasIM_mem hs,Or.inr ⟨hd,C,vs,hH,Or.inl ⟨hasPriv_mem hp.1,ki,rInst_mem hki⟩⟩⟩⟩
                · split at hq
                  · rename_i hp; cases hq
                    exact ⟨i,mx,na,sl,_,hc,rfl,g.2.2.1,g.2.1,Or.inr ⟨a,_,rfl,by simp; omega,by rw [List.reverse_reverse,← hdrop,List.take_append_drop],hasIM_mem hs,Or.inr ⟨hd,C,vs,hH,Or.inr ⟨hasDecl_mem hp.1,hasSel_mem hp.2,g.1.resolve_left (by simp)⟩⟩⟩⟩
                  · cases hq
              · cases hq
            · cases hq
          · cases h
        · cases h
      · cases h
    · cases h
  · cases h
theorem act_size {pc' : Nat} {ls' : List Slot} {st' : List Value} {H' : AHeap} (h : act ws dn k y bytes ret pc ls st H = some (.inr (.inl (pc',ls',st',H')))) : H.length≤H'.length∧tot ws H≤tot ws H'∧ls'.length = ls.length:=by
  obtain ⟨ins,len,hd,⟨g,rfl⟩ | ⟨rfl,g⟩ | ⟨i,sl,a,r,-,-,-,-,-,-,rfl,-,rfl⟩⟩:=act_step h
  · exact ⟨Nat.le_refl _,Nat.le_refl _,xstep_size g⟩
  · have:=hstep_size g; exact ⟨this.1,this.2,rfl⟩
  · exact ⟨Nat.le_refl _,Nat.le_refl _,rfl⟩
end Inv
theorem run_size {ws : Ws} {dn : Dn} {k : Nat} : ∀ {n : Nat} {y : MethodName} {bytes : ByteArray} {ret : Option FieldType} {pc : Nat} {ls : List Slot} {st : List Value} {H : AHeap} {v : Option Value} {H' : AHeap},run ws dn k n y bytes ret pc ls st H = some (v,H')→H.length≤H'.length∧tot ws H≤tot ws H'
  | 0,_,_,_,_,_,_,_,_,_,h => by cases h
  | n + 1,y,bytes,ret,pc,ls,st,H,v,H',h => by
    rw [run] at h
    split at h
    · cases h
    · cases h; exact ⟨Nat.le_refl _,Nat.le_refl _⟩
    · rename_i g
      have h1:=run_size h
      have h2:=act_size g
      exact ⟨Nat.le_trans h2.1 h1.1,Nat.le_trans h2.2.1 h1.2⟩
    · split at h
      · rename_i g
        have h1:=run_size h
        have h2:=run_size g
        exact ⟨Nat.le_trans h2.1 h1.1,Nat.le_trans h2.2 h1.2⟩
      · cases h
section Snd
def Goes (p : Program) (l : Launch) (e : Env) (R : Room) (s : State) (m : MethodId) (args : Array Value) (below : List Frame) (meth : Method) (c : Code) (T : State) (Z : State) (ws : Ws) (k sa n0 cells slots : Nat) (H : AHeap) (g : JFrame) (ret : Option FieldType) (v : Option Value) (H' : AHeap) : Prop :=
  ∃ T' locs',Stand p l e R s m args below meth c T' locs' (cells + (H'.length - H.length)) (slots + (tot ws H' - tot ws H))∧Sim Z ws k sa n0 H' T'.heap∧Fr n0 locs'∧(ret = none→v = none) ∧
    ∀ fs,(∀ (fj : JFrame) (acts : List Action),fj.method = m→fj.locked = none→fj.entered = []→(doReturn e (T'.setTop fj) acts (v.map (ren (adr k sa n0)))).1 = T'.setFrames fs)→Steps p.tables e below (T.setTop g) (T'.setFrames fs)
variable {p : Program} {l : Launch} {e : Env} {R : Room} {s : State} {m : MethodId} {args : Array Value} {below : List Frame} {meth : Method} {c : Code} {T : State} {locs : List Loc} {cells slots : Nat}
  {Z : State} {a0 : Array Value} {ws : Ws} {dn : Dn} {k sa n0 : Nat}
theorem Goes.of {T1 : State} {H H1 H' : AHeap} {g g1 : JFrame} {ret : Option FieldType} {v : Option Value} (hst : ∀ target,Steps p.tables e below (T1.setTop g1) target→Steps p.tables e below (T.setTop g) target)
    (G : Goes p l e R s m args below meth c T1 Z ws k sa n0 (cells + (H1.length - H.length)) (slots + (tot ws H1 - tot ws H)) H1 g1 ret v H') (m1 : H.length≤H1.length∧tot ws H≤tot ws H1) (m2 : H1.length≤H'.length∧tot ws H1≤tot ws H') :
    Goes p l e R s m args below meth c T Z ws k sa n0 cells slots H g ret v H':=by
  obtain ⟨T',locs',X',S',N',hv,go⟩:=G
  have e1 : cells + (H1.length - H.length) + (H'.length - H1.length) = cells + (H'.length - H.length):=by omega
  have e2 : slots + (tot ws H1 - tot ws H) + (tot ws H' - tot ws H1) = slots + (tot ws H' - tot ws H):=by omega
  rw [e1,e2] at X'
  exact ⟨T',locs',X',S',N',hv,fun fs hf => hst _ (go fs hf)⟩
def Snd (Z : State) (ws : Ws) (dn : Dn) (k sa n0 n : Nat) : Prop :=
  ∀ (y : MethodName) (bytes : ByteArray) (ret : Option FieldType) (pc : Nat) (ls : List Slot) (st : List Value) (H : AHeap) (v : Option Value) (H' : AHeap),run ws dn k n y bytes ret pc ls st H = some (v,H') →
  ∀ (p : Program) (l : Launch) (e : Env) (R : Room) (s : State) (m : MethodId) (args : Array Value) (below : List Frame) (meth : Method) (c : Code) (T : State) (locs : List Loc) (cells slots : Nat),
    Stand p l e R s m args below meth c T locs cells slots→p.tables.exec = Jvm.exec→Z.Warmed39 s.vm→s.vm.findClass y.cls = some m.cls→meth.name = y.name→meth.sig.returnType = ret→c.code = bytes→ls.length = c.maxLocals →
    (∀ f lc,dnOf dn y = some (f,lc)→f≤R.frames∧lc≤R.locals)→Sim Z ws k sa n0 H T.heap→Fr n0 locs→cells + (H'.length - H.length)≤R.cells→slots + (tot ws H' - tot ws H)≤R.slots→T.heap.size = s.heap.size + cells →
    Goes p l e R s m args below meth c T Z ws k sa n0 cells slots H (fr (adr k sa n0) m pc ls st) ret v H'
theorem met_of {n : Nat} (ih : Snd Z ws dn k sa n0 n) (l : Launch) {y : MethodName} {b : ByteArray} {mx f lc : Nat} {r : Option FieldType} (wsx : List Jvm.Cond) (hp : Jvm.plainName y.cls = true) {as : List Value} (he : (ent as).length≤mx) {H H1 : AHeap} {v : Option Value}
    (hrun : run ws dn k n y b r 0 (entry as mx) [] H = some (v,H1)) (hdn : ∀ f' l',dnOf dn y = some (f',l')→f'≤f∧l'≤lc) {h : Heap} (S : Sim Z ws k sa n0 H h) {rc rs : Nat} (hc : H1.length - H.length≤rc) (hs : tot ws H1 - tot ws H≤rs) :
    MetFree l y (head1 (Jvm.Cond.code y b mx r::wsx) ({ frames:=f,cells:=rc,slots:=rs,locals:=lc } : Room)) (fun a U => a = (as.map (ren (adr k sa n0))).toArray∧Z.Warmed39 U.vm∧U.heap = h) (fun _ _ _ _ _ => True)
      (fun _ U o U' => ∃ w L,o = .returned w∧(w = v.map (ren (adr k sa n0))∧Sim Z ws k sa n0 H1 U'.heap∧Fr n0 L)∧FrameEnd U o U' L (H1.length - H.length) (tot ws H1 - tot ws H)):=by
  refine MetFree.of_bodySF (plainFor_of_name hp) hisR ?_
  intro p e s m args below meth c s₁ Bd hml0 hP hK
  obtain ⟨rfl,hZ,hh⟩:=hP
  have hown : s.vm.findClass y.cls = some m.cls:=findClass_of_methodNamed Bd.named
  have hnm:=(name_of_methodNamed Bd.named Bd.method).1
  have X0 : Stand p l e ({ frames:=f,cells:=rc,slots:=rs,locals:=lc } : Room) s m (as.map (ren (adr k sa n0))).toArray below meth c s₁ [] 0 0:=Stand.of_body Bd
  have e0 : s₁.heap = h:=by rw [← hh,Bd.state]; rfl
  obtain ⟨T',locs',X',S',N',hv,go⟩:=ih y b r 0 (entry as mx) [] H v H1 hrun p l e _ s m _ below meth c s₁ [] 0 0 X0 Bd.exec hZ hown hnm Bd.returns Bd.bytes (by rw [entry_len he]; exact hml0.symm) hdn (by rw [e0]; exact S) (Fr.nil n0) (by rw [Nat.zero_add]; exact hc) (by rw [Nat.zero_add]; exact hs) (by rw [e0,← hh,Nat.add_zero])
  obtain ⟨fs,hr,hrun',hended,hW,hsame⟩:=X'.leave (v:=v.map (ren (adr k sa n0))) (fun hn => by rw [Bd.returns] at hn; rw [hv hn]; rfl)
  refine ⟨_,_,castTop (entry_eq _ m as mx) (go fs hr),hrun',hended,_,locs',rfl,⟨rfl,S',N'⟩,⟨_,rfl⟩,hW,hsame.mono (Nat.le_of_eq (Nat.zero_add _)) (Nat.le_of_eq (Nat.zero_add _))⟩
set_option maxHeartbeats 2000000 in
theorem snd (hw : ∀ d ∈ ws,d.before a0 Z = true) : ∀ n,Snd Z ws dn k sa n0 n
  | 0 => fun y bytes ret pc ls st H v H' h => by cases h
  | n + 1 => fun y bytes ret pc ls st H v H' h p l e R s m args below meth c T locs cells slots X hx hZ hown hnm hret hby hls hF S N hc hl hz0 => by
    have ih:=snd hw n
    rw [run] at h
    split at h
    · cases h
    · rename_i v' ha
      cases h
      have stay : ∀ {v : Option Value},(ret = none→v = none)→(∀ fs,(∀ (fj : JFrame) (acts : List Action),fj.method = m→fj.locked = none→fj.entered = []→(doReturn e (T.setTop fj) acts (v.map (ren (adr k sa n0)))).1 = T.setFrames fs)→Steps p.tables e below (T.setTop (fr (adr k sa n0) m pc ls st)) (T.setFrames fs)) →
          Goes p l e R s m args below meth c T Z ws k sa n0 cells slots H (fr (adr k sa n0) m pc ls st) ret v H:=fun hv hg => ⟨T,locs,by rw [Nat.sub_self,Nat.sub_self]; exact X,S,N,hv,hg⟩
      rcases act_ret ha with ⟨z,r,t,hd,rfl,rfl,ht,rfl⟩ | ⟨z,hd,rfl,rfl,rfl⟩ | ⟨hd,rfl,rfl,rfl⟩
      · refine stay (fun h => by cases h) fun fs hf => ?_
        rcases ht with rfl | ht
        · exact retOut X hx hret (w:=.int z) (rest:=r.map (ren (adr k sa n0))) rfl (Or.inl ⟨rfl,Or.inl rfl,z,rfl⟩) (hb hby hd) hf
        · exact retN X hx hret ht (hb hby hd) hf
      · exact stay (fun h => by cases h) fun fs hf => retOut X hx hret (w:=.long z) (rest:=[]) rfl (Or.inr (Or.inl ⟨rfl,rfl,z,rfl⟩)) (hb hby hd) hf
      · exact stay (fun _ => rfl) fun fs hf => X.returnOut hx hret (hb hby hd) hf
    · rename_i pc' ls' st' H1 ha
      have m1:=act_size ha
      have m2:=run_size h
      obtain ⟨ins,len,hd,⟨g,rfl⟩ | ⟨rfl,g⟩ | ⟨i,sl,a,r,rfl,rfl,ho,rfl,hW,rfl,rfl,rfl,rfl⟩⟩:=act_step ha
      · obtain ⟨T',locs',X',S',N',hv,go⟩:=ih y bytes ret pc' ls' st' H1 v H' h p l e R s m args below meth c T locs cells slots X hx hZ hown hnm hret hby (m1.2.2.trans hls) hF S N hc hl hz0
        exact ⟨T',locs',X',S',N',hv,fun fs hf => xstep_sound X.here hx (adr k sa n0) (hb hby hd) g (go fs hf)⟩
      · obtain ⟨T1,locs1,X1,S1,N1,st1⟩:=hstep_sound (ls:=ls') hw X hx hZ hown hnm (hb hby hd) g S N (by dsimp only; omega) (by dsimp only; omega) hz0
        dsimp only at X1 S1 st1
        have z1:=S.1
        have z2:=S1.1
        have z3:=S.2.1
        have G:=ih y bytes ret pc' ls' st' H1 v H' h p l e R s m args below meth c T1 locs1 _ _ X1 hx hZ hown hnm hret hby hls hF S1 N1 (by omega) (by omega) (by omega)
        exact Goes.of st1 G ⟨m1.1,m1.2.1⟩ m2
      · unfold oR at ho
        split at ho
        · rename_i y1 b1 mx1 r1 f1 l1 q1 q2 q3
          split at ho
          · rename_i g
            cases ho
            obtain ⟨rfl,g2,g3,rfl,rfl,g4,g5⟩:=g
            obtain ⟨u1,u2⟩:=hF _ _ q3
            have eb : b1 = ⟨#[0xb1]⟩:=by cases b1; cases g3; rfl
            subst eb
            obtain ⟨T1,X1,e1,st1⟩:=initO X hx hZ hown (hw _ (rMth_mem q1)) (hw _ (hasIM_mem g2)) (hw _ (rCode_mem q2)) rfl (g:=fr (adr k sa n0) m pc ls' (.ref a::st')) rfl (by simp [hls]) rfl (hb hby hd) (by omega) (W:=l1 - 12) (by show 2 * 0 + _≤_; rw [wsum_ren]; omega) (by omega)
            have G:=ih y bytes ret (pc + 3) ls' st' H1 v H' h p l e R s m args below meth c T1 locs cells slots X1 hx hZ hown hnm hret hby hls hF (by rw [e1]; exact S) N hc hl (by rw [e1]; exact hz0)
            obtain ⟨T',locs',X',S',N',hv,go⟩:=G
            exact ⟨T',locs',X',S',N',hv,fun fs hf => st1 _ (go fs hf)⟩
          · cases ho
        · cases ho
    · rename_i y' b r en rest ha
      split at h
      · rename_i v1 H1 h1
        have m1:=run_size h1
        have m2:=run_size h
        obtain ⟨i,mx,na,sl,as,hq,rfl,hen,hW,hk⟩:=act_call ha
        obtain ⟨w1,w2,w3,w4,w5,-,f',l',f,lc,sig,d1,d2,d3,d4,d5,d6⟩:=cR_some hq
        obtain ⟨u1,u2⟩:=hF _ _ d2
        have hM:=met_of ih l [] w4 hen h1 (f:=f') (lc:=l') (fun f2 l2 q => by rw [d1] at q; cases q; exact ⟨Nat.le_refl _,Nat.le_refl _⟩) S (Nat.le_refl _) (Nat.le_refl _)
        have hB:=backOf (R:=R) (p:=p) (e:=e) (below:=below) (s:=s) (args:=args) (len:=3) (W:=sl) (rm:=({ frames:=f',cells:=H1.length - H.length,slots:=tot ws H1 - tot ws H,locals:=l' } : Room)) (Q:=fun w h L => w = v1.map (ren (adr k sa n0))∧Sim Z ws k sa n0 H1 h∧Fr n0 L) hM hZ (hw _ w2) (hw _ w3) (by show f' + 1≤_; omega) (by show sl + (mx + 11) + l'≤_; omega)
        have hsz : (fr (adr k sa n0) m pc ls st).locals.size = c.maxLocals:=by simp [hls]
        have hWW : ∀ st' : List Value,wsum st'≤sl→2 * (fr (adr k sa n0) m pc ls st).monitorRoom + ((st'.map (ren (adr k sa n0))).map fun v => v.category).sum≤sl:=fun st' q => by show 2 * 0 + _≤_; rw [wsum_ren]; omega
        have hback : ∀ (v' : Option Value) (vm₁ : Vm) (B : Pt),Stand p l e R s m args below meth c B.U B.locs B.cells B.slots →
            (∃ L,(v' = v1.map (ren (adr k sa n0))∧Sim Z ws k sa n0 H1 B.U.heap∧Fr n0 L)∧B.locs = locs ++ L∧B.cells = cells + (H1.length - H.length)∧B.slots = slots + (tot ws H1 - tot ws H)) →
            (∀ target,Steps p.tables e below (B.U.setTop { fr (adr k sa n0) m pc ls st with pc:=pc + 3,stack:=v'.toList ++ rest.map (ren (adr k sa n0)) }) target→Steps p.tables e below (T.setTop (fr (adr k sa n0) m pc ls st)) target) →
            Goes p l e R s m args below meth c T Z ws k sa n0 cells slots H (fr (adr k sa n0) m pc ls st) ret v H':=by
          rintro v' vm₁ ⟨T1,L1,k1,n1⟩ X1 ⟨Lc,⟨rfl,S1,N1⟩,l1,y1,z1⟩ st1
          dsimp only [Pt.U,Pt.locs,Pt.cells,Pt.slots] at X1 l1 y1 z1 st1 S1
          subst l1 y1 z1
          have z1:=S.1
          have z2:=S1.1
          have z3:=S.2.1
          have G:=ih y bytes ret (pc + 3) ls (v1.toList ++ rest) H1 v H' h p l e R s m args below meth c T1 _ _ _ X1 hx hZ hown hnm hret hby hls hF S1 (Fr.app N N1) (by omega) (by omega) (by omega)
          refine Goes.of (fun target ht => st1 target ?_) G m1 m2
          have e1 : (v1.toList ++ rest).map (ren (adr k sa n0)) = (v1.map (ren (adr k sa n0))).toList ++ rest.map (ren (adr k sa n0)):=by cases v1 <;> simp
          rw [← e1]; exact ht
        rcases hk with ⟨hd,ws1,hna,rfl⟩ | ⟨a,as',rfl,hna,rfl,wi,⟨hd,hn,rfl⟩ | ⟨hd,C,vs,hH,hpd⟩⟩
        · obtain ⟨v',vm₁,B,-,X1,P1,st1⟩:=Jvm.LawKit.callS X hx (y:=y') hown (mvT hZ (hw _ w1)) (mvT hZ (hw _ ws1)) (mvT hZ (hw _ w3)) (mvT hZ (hw _ w2)) w5 hB (g:=fr (adr k sa n0) m pc ls (as.reverse ++ rest)) rfl hsz (argsL:=as.map (ren (adr k sa n0))) (rest:=rest.map (ren (adr k sa n0)))
            (fun sg hsg => by rw [d3] at hsg; cases hsg; simp [hna,d4]) (by simp) (hWW rest hW) (hb hby hd) (fun _ _ => ⟨rfl,rfl,by show cells + (H1.length - H.length)≤_; omega,by show slots + (tot ws H1 - tot ws H)≤_; omega⟩)
          exact hback v' vm₁ B X1 P1 st1
        · obtain ⟨v',vm₁,B,-,X1,P1,st1⟩:=X.specialBack hx (y:=y') hn hown (mvT hZ (hw _ w1)) (mvT hZ (hw _ wi)) (mvT hZ (hw _ w2)) w5 hB (g:=fr (adr k sa n0) m pc ls (as'.reverse ++ .ref a::rest)) rfl hsz (Steps.refl _) (a:=adr k sa n0 a) (argsL:=as'.map (ren (adr k sa n0))) (rest:=rest.map (ren (adr k sa n0)))
            (fun sg hsg => by rw [d3] at hsg; cases hsg; simp [hna,d4]) (by simp [ren]) (hWW rest hW) (hb hby hd) (fun _ _ => ⟨rfl,rfl,by show cells + (H1.length - H.length)≤_; omega,by show slots + (tot ws H1 - tot ws H)≤_; omega⟩)
          exact hback v' vm₁ B X1 P1 fun target ht => st1.trans ht
        · have E:=(S.2.2.2.2 a _ hH).1
          rcases hpd with ⟨wp,ki,wki⟩ | ⟨wd,wsel,rfl⟩
          · obtain ⟨cq,hq1,hq2⟩:=E.cell
            have hpa : s.PrivateAt y':=Cond.privateMethod_at (mvP hZ (hw _ wp) (args:=#[]))
            have hsel : (Jvm.Cond.selects y'.cls y' y').before args s = true:=by
              have wz : (Jvm.Cond.instantiable y'.cls ki).before args s = true:=mvT hZ (hw _ wki)
              obtain ⟨c2,k2,i1,i2,-,i4,-⟩:=Cond.instantiable_spec wz
              exact selects_self_of_private i1 i2 (Bool.or_eq_false_iff.mp i4).1 hpa (mvT hZ (hw _ wi)) w5
            obtain ⟨v',vm₁,B,-,X1,P1,st1⟩:=X.privateBack hx (y:=y') hown (mvT hZ (hw _ w1)) (mvT hZ (hw _ wi)) hsel hpa (mvT hZ (hw _ w2)) w5 hB (g:=fr (adr k sa n0) m pc ls (as'.reverse ++ .ref a::rest)) rfl hsz (Steps.refl _) (a:=adr k sa n0 a) hq1 hq2 (argsL:=as'.map (ren (adr k sa n0))) (rest:=rest.map (ren (adr k sa n0)))
              (fun sg hsg => by rw [d3] at hsg; cases hsg; simp [hna,d4]) (by simp [ren]) (hWW rest hW) (hb hby hd) (fun _ _ => ⟨rfl,rfl,by show cells + (H1.length - H.length)≤_; omega,by show slots + (tot ws H1 - tot ws H)≤_; omega⟩)
            exact hback v' vm₁ B X1 P1 fun target ht => st1.trans ht
          · obtain ⟨cq,kq,qa,qb,qc⟩:=isOf hZ rfl E
            obtain ⟨v',vm₁,B,-,X1,P1,st1⟩:=X.virtualBack hx (y:=y') (z:=y') hown (mvT hZ (hw _ w1)) (mvT hZ (hw _ wd)) (notFace_of_selects (args:=#[]) (mvT hZ (hw _ wsel))) (mvT hZ (hw _ wsel)) (mvT hZ (hw _ wi)) w5 hB qa qc (g:=fr (adr k sa n0) m pc ls (as'.reverse ++ .ref a::rest)) rfl hsz (Steps.refl _) (argsL:=as'.map (ren (adr k sa n0))) (rest:=rest.map (ren (adr k sa n0)))
              (fun sg hsg => by rw [d3] at hsg; cases hsg; simp [hna,d4]) (by simp [ren]) (hWW rest hW) (hb hby hd) (fun _ _ => ⟨rfl,rfl,by show cells + (H1.length - H.length)≤_; omega,by show slots + (tot ws H1 - tot ws H)≤_; omega⟩)
            exact hback v' vm₁ B X1 P1 fun target ht => st1.trans ht
      · cases h
end Snd
end Jvm.Own
namespace Jvm.Own
open Sem ClassFile Op Lib Jvm.Stand Jvm.Free Jvm.LawKit Jvm.RoadKit
theorem run_succ {ws : Ws} {dn : Dn} {k : Nat} : ∀ {n : Nat} {y : MethodName} {bytes : ByteArray} {ret : Option FieldType} {pc : Nat} {ls : List Slot} {st : List Value} {H : AHeap} {r : Option Value × AHeap},run ws dn k n y bytes ret pc ls st H = some r→run ws dn k (n + 1) y bytes ret pc ls st H = some r
  | 0,_,_,_,_,_,_,_,_,h => by cases h
  | n + 1,y,bytes,ret,pc,ls,st,H,r,h => by
    rw [run] at h
    rw [run]
    split at h
    · cases h
    · exact h
    · exact run_succ h
    · split at h
      · rename_i v H1 g
        rw [run_succ g]
        exact run_succ h
      · cases h
theorem run_mono {ws : Ws} {dn : Dn} {k n n' : Nat} {y : MethodName} {bytes : ByteArray} {ret : Option FieldType} {pc : Nat} {ls : List Slot} {st : List Value} {H : AHeap} {r : Option Value × AHeap} (hn : n≤n') (h : run ws dn k n y bytes ret pc ls st H = some r) : run ws dn k n' y bytes ret pc ls st H = some r:=by
  induction hn with
  | refl => exact h
  | step _ ih => exact run_succ ih
def W (ws : Ws) (dn : Dn) (k : Nat) (y : MethodName) (bytes : ByteArray) (ret : Option FieldType) (pc : Nat) (ls : List Slot) (st : List Value) (H : AHeap) (Q : Option Value→AHeap→Prop) : Prop :=
  ∃ n v H',run ws dn k n y bytes ret pc ls st H = some (v,H')∧Q v H'
section
variable {ws : Ws} {dn : Dn} {k : Nat} {y : MethodName} {bytes : ByteArray} {ret : Option FieldType} {pc : Nat} {ls : List Slot} {st : List Value} {H : AHeap} {Q : Option Value→AHeap→Prop}
theorem W_step {pc' : Nat} {ls' : List Slot} {st' : List Value} {H' : AHeap} (h : act ws dn k y bytes ret pc ls st H = some (.inr (.inl (pc',ls',st',H')))) : W ws dn k y bytes ret pc ls st H Q = W ws dn k y bytes ret pc' ls' st' H' Q:=by
  refine propext ⟨fun ⟨n,v,H1,h1,h2⟩ => ?_,fun ⟨n,v,H1,h1,h2⟩ => ⟨n + 1,v,H1,by rw [run,h]; exact h1,h2⟩⟩
  cases n with
  | zero => cases h1
  | succ n => rw [run,h] at h1; exact ⟨n,v,H1,h1,h2⟩
theorem W_ret {v : Option Value} (h : act ws dn k y bytes ret pc ls st H = some (.inl v)) : W ws dn k y bytes ret pc ls st H Q = Q v H:=by
  refine propext ⟨fun ⟨n,v,H1,h1,h2⟩ => ?_,fun h2 => ⟨1,v,H,by rw [run,h],h2⟩⟩
  cases n with
  | zero => cases h1
  | succ n => rw [run,h] at h1; cases h1; exact h2
theorem W_call {y' : MethodName} {b : ByteArray} {r : Option FieldType} {en : List Slot} {rest : List Value} (h : act ws dn k y bytes ret pc ls st H = some (.inr (.inr (y',b,r,en,rest)))) :
    W ws dn k y bytes ret pc ls st H Q = W ws dn k y' b r 0 en [] H (fun v H1 => W ws dn k y bytes ret (pc + 3) ls (v.toList ++ rest) H1 Q):=by
  refine propext ⟨fun ⟨n,v,H1,h1,h2⟩ => ?_,fun ⟨n,v,H1,h1,n',v',H',h2,h3⟩ => ⟨max n n' + 1,v',H',?_,h3⟩⟩
  · cases n with
    | zero => cases h1
    | succ n =>
      rw [run,h] at h1
      dsimp only at h1
      split at h1
      · rename_i v' H' g; exact ⟨n,v',H',g,n,v,H1,h1,h2⟩
      · cases h1
  · rw [run,h]
    dsimp only
    rw [run_mono (Nat.le_max_left _ _) h1]
    exact run_mono (Nat.le_max_right _ _) h2
theorem W.mono {Q' : Option Value→AHeap→Prop} (h : W ws dn k y bytes ret pc ls st H Q) (hq : ∀ v H',Q v H'→Q' v H') : W ws dn k y bytes ret pc ls st H Q':=by
  obtain ⟨n,v,H',h1,h2⟩:=h; exact ⟨n,v,H',h1,hq _ _ h2⟩
theorem act_x {ins : Instr} {len pc' : Nat} {ls' : List Slot} {st' : List Value} (hd : decode bytes pc = .ok (ins,len)) (hx : xstep ins len pc ls st = some (pc',ls',st')) : act ws dn k y bytes ret pc ls st H = some (.inr (.inl (pc',ls',st',H))):=by
  unfold act; rw [hd]; dsimp only; rw [hx]
theorem act_h {ins : Instr} {len pc' : Nat} {st' : List Value} {H' : AHeap} (hd : decode bytes pc = .ok (ins,len)) (hx : xstep ins len pc ls st = none) (hh : hstep ws k y ins len pc st H = some (pc',st',H')) : act ws dn k y bytes ret pc ls st H = some (.inr (.inl (pc',ls,st',H'))):=by
  unfold act; rw [hd]; dsimp only; rw [hx]; dsimp only; rw [hh]
theorem act_c {ins : Instr} {len : Nat} (hd : decode bytes pc = .ok (ins,len)) (hx : xstep ins len pc ls st = none) (hh : hstep ws k y ins len pc st H = none) : act ws dn k y bytes ret pc ls st H = cstep ws dn y ret ins len pc ls st H:=by
  unfold act; rw [hd]; dsimp only; rw [hx]; dsimp only; rw [hh]
theorem w_x {ins : Instr} {len pc' : Nat} {ls' : List Slot} {st' : List Value} (hd : decode bytes pc = .ok (ins,len)) (hx : xstep ins len pc ls st = some (pc',ls',st')) : W ws dn k y bytes ret pc ls st H Q = W ws dn k y bytes ret pc' ls' st' H Q:=W_step (act_x hd hx)
theorem w_if {cd : ClassFile.Cond} {o : Int} {x : Int32} {t : Nat} {P : Prop} [Decidable P] (hd : decode bytes pc = .ok (.ifCond cd o,3)) (hp : ifCond.holds cd x = decide P) (hj : jmp pc o = some t) :
    W ws dn k y bytes ret pc ls (.int x::st) H Q = if P then W ws dn k y bytes ret t ls st H Q else W ws dn k y bytes ret (pc + 3) ls st H Q:=by
  split
  · exact w_x hd (by simp only [xstep,chk,br,hp,hj,if_true]; simp [*])
  · exact w_x hd (by simp only [xstep,chk,br,hp,hj,if_true]; simp [*])
theorem w_icmp {cd : ClassFile.Cond} {o : Int} {x1 x2 : Int32} {t : Nat} {P : Prop} [Decidable P] (hd : decode bytes pc = .ok (.if_icmp cd o,3)) (hp : if_icmp.holds cd x1 x2 = decide P) (hj : jmp pc o = some t) :
    W ws dn k y bytes ret pc ls (.int x2::.int x1::st) H Q = if P then W ws dn k y bytes ret t ls st H Q else W ws dn k y bytes ret (pc + 3) ls st H Q:=by
  split
  · exact w_x hd (by simp only [xstep,chk,br,hp,hj,if_true]; simp [*])
  · exact w_x hd (by simp only [xstep,chk,br,hp,hj,if_true]; simp [*])
theorem w_get {i j : Nat} {a : Nat} {C : String} {vs : List Value} {v : Value} (hd : decode bytes pc = .ok (.getfield i,3)) (hr : gfR ws y.cls i = some (C,j)) (ho : H[a]? = some (.object C,vs)) (hv : vs[j]? = some v) :
    W ws dn k y bytes ret pc ls (.ref a::st) H Q = W ws dn k y bytes ret (pc + 3) ls (v::st) H Q :=
  W_step (act_h hd rfl (by simp only [hstep,chk,hGet,hr,ho,hv,if_true,Option.map_some]))
theorem w_put {i j : Nat} {a : Nat} {C : String} {ty : FieldType} {vs : List Value} {v v' : Value} {H' : AHeap} (hd : decode bytes pc = .ok (.putfield i,3)) (hr : pfR ws y.cls y.name i = some (C,j,ty)) (ho : H[a]? = some (.object C,vs)) (hk : k≤a) (hj : j < vs.length) (hv : putv ty v = some v') (hH : H.set a (.object C,vs.set j v') = H') :
    W ws dn k y bytes ret pc ls (v::.ref a::st) H Q = W ws dn k y bytes ret (pc + 3) ls st H' Q :=
  W_step (act_h hd rfl (by simp only [hstep,chk,hPut,hr,ho,hv,if_true,true_and,hk,hj,Option.map_some,hH,and_self]))
theorem w_new {i : Nat} {C : String} (hd : decode bytes pc = .ok (.new i,3)) (hr : hNew ws y.cls i pc H st = some (pc + 3,.ref H.length::st,H ++ [(.object C,(olay ws C).map dflt)])) :
    W ws dn k y bytes ret pc ls st H Q = W ws dn k y bytes ret (pc + 3) ls (.ref H.length::st) (H ++ [(.object C,(olay ws C).map dflt)]) Q :=
  W_step (act_h hd rfl (by simp only [hstep,chk,if_true]; exact hr))
theorem w_newA {aty : ArrayType} {n : Int32} {ty : FieldType} (hd : decode bytes pc = .ok (.newarray aty,2)) (ht : newarray.typeOf aty = ty) (hr : hasArr ws ty = true) (hn : ¬ n < 0) (hb : n.toNatClampNeg * 8≤536870912) :
    W ws dn k y bytes ret pc ls (.int n::st) H Q = W ws dn k y bytes ret (pc + 2) ls (.ref H.length::st) (H ++ [(.array ty,List.replicate n.toNatClampNeg (defaultValue ty))]) Q:=by
  subst ht
  exact W_step (act_h hd rfl (by simp only [hstep,chk,hNewA,hr,hn,hb,if_true,not_false_eq_true,and_self]))
def ldOk : Instr→FieldType→Bool
  | .iaload,.int | .caload,.char | .laload,.long | .baload,.byte | .baload,.boolean => true
  | _,_ => false
def stOk : Instr→FieldType→Bool
  | .iastore,.int | .castore,.char | .lastore,.long | .bastore,.byte | .bastore,.boolean => true
  | _,_ => false
theorem w_ald {ins : Instr} {a : Nat} {j : Int32} {ty : FieldType} {vs : List Value} {v : Value} (hd : decode bytes pc = .ok (ins,1)) (hi : ldOk ins ty = true) (ho : H[a]? = some (.array ty,vs)) (hj : ¬ j < 0) (hv : vs[j.toNatClampNeg]? = some v) :
    W ws dn k y bytes ret pc ls (.int j::.ref a::st) H Q = W ws dn k y bytes ret (pc + 1) ls (v::st) H Q:=by
  unfold ldOk at hi
  split at hi
  all_goals first
    | exact W_step (act_h hd rfl (by simp only [hstep,chk,hLd,okT,okB,ho,hv,hj,if_true,Option.map_some,decide_true,not_false_eq_true,and_self,Bool.or_true,Bool.true_or]))
    | cases hi
theorem w_ast {ins : Instr} {a : Nat} {j : Int32} {ty : FieldType} {vs : List Value} {v v' : Value} {H' : AHeap} (hd : decode bytes pc = .ok (ins,1)) (hi : stOk ins ty = true) (ho : H[a]? = some (.array ty,vs)) (hk : k≤a) (hj : ¬ j < 0) (hl : j.toNatClampNeg < vs.length) (hv : putv ty v = some v') (hH : H.set a (.array ty,vs.set j.toNatClampNeg v') = H') :
    W ws dn k y bytes ret pc ls (v::.int j::.ref a::st) H Q = W ws dn k y bytes ret (pc + 1) ls st H' Q:=by
  unfold stOk at hi
  split at hi
  all_goals first
    | exact W_step (act_h hd rfl (by simp only [hstep,chk,hSt,okT,okB,ho,hv,hj,hk,hl,hH,if_true,Option.map_some,decide_true,not_false_eq_true,and_self,Bool.or_true,Bool.true_or]))
    | cases hi
theorem w_len {a : Nat} {ty : FieldType} {vs : List Value} (hd : decode bytes pc = .ok (.arraylength,1)) (ho : H[a]? = some (.array ty,vs)) :
    W ws dn k y bytes ret pc ls (.ref a::st) H Q = W ws dn k y bytes ret (pc + 1) ls (.int vs.length.toInt32::st) H Q :=
  W_step (act_h hd rfl (by simp only [hstep,chk,hLen,ho,if_true]))
theorem w_ldc {i : Nat} {v : Int32} (hd : decode bytes pc = .ok (.ldc i,2)) (hr : rCon ws y.cls i = some v) : W ws dn k y bytes ret pc ls st H Q = W ws dn k y bytes ret (pc + 2) ls (.int v::st) H Q :=
  W_step (act_h hd rfl (by simp only [hstep,chk,hr,if_true,Option.map_some]))
theorem w_ldc2 {i : Nat} {v : Int64} (hd : decode bytes pc = .ok (.ldc2_w i,3)) (hr : rConL ws y.cls i = some v) : W ws dn k y bytes ret pc ls st H Q = W ws dn k y bytes ret (pc + 3) ls (.long v::st) H Q :=
  W_step (act_h hd rfl (by simp only [hstep,chk,hr,if_true,Option.map_some]))
theorem w_iret {z : Int32} (hd : decode bytes pc = .ok (.ireturn,1)) (hr : ret = some .int) : W ws dn k y bytes ret pc ls (.int z::st) H Q = Q (some (.int z)) H:=by
  subst hr; exact W_ret (by rw [act_c hd rfl rfl]; rfl)
theorem w_iretN {z : Int32} {t : FieldType} (hd : decode bytes pc = .ok (.ireturn,1)) (hr : ret = some t) (ht : t = .int ∨ t = .boolean ∨ t = .byte ∨ t = .char ∨ t = .short) : W ws dn k y bytes ret pc ls (.int z::st) H Q = Q (some (.int (nar t z))) H:=by
  subst hr; exact W_ret (by rw [act_c hd rfl rfl]; simp only [cstep,chk,if_true,ht])
theorem w_lret {z : Int64} (hd : decode bytes pc = .ok (.lreturn,1)) (hr : ret = some .long) : W ws dn k y bytes ret pc ls [.long z] H Q = Q (some (.long z)) H:=by
  subst hr; exact W_ret (by rw [act_c hd rfl rfl]; rfl)
theorem w_vret (hd : decode bytes pc = .ok (.return_,1)) (hr : ret = none) : W ws dn k y bytes ret pc ls [] H Q = Q none H:=by
  subst hr; exact W_ret (by rw [act_c hd rfl rfl]; rfl)
theorem w_obj {i sl : Nat} {a : Nat} (hd : decode bytes pc = .ok (.invokespecial i,3)) (hr : oR ws dn y i = some sl) (hw : wsum st≤sl) : W ws dn k y bytes ret pc ls (.ref a::st) H Q = W ws dn k y bytes ret (pc + 3) ls st H Q :=
  W_step (by rw [act_c hd rfl rfl]; simp only [cstep,chk,if_true,hr,hw])
theorem w_stat {i mx na sl : Nat} {y' : MethodName} {b : ByteArray} {r : Option FieldType} {as rest : List Value} {en : List Slot} (hd : decode bytes pc = .ok (.invokestatic i,3)) (hr : sR ws dn y i = some (y',b,mx,r,na,sl)) (hn : as.length = na) (hw : wsum rest≤sl) (he : (ent as.reverse).length≤mx) (hen : entry as.reverse mx = en) :
    W ws dn k y bytes ret pc ls (as ++ rest) H Q = W ws dn k y' b r 0 en [] H (fun v H1 => W ws dn k y bytes ret (pc + 3) ls (v.toList ++ rest) H1 Q):=by
  subst hn hen
  have e1 : (as ++ rest).take as.length = as:=by simp
  have e2 : (as ++ rest).drop as.length = rest:=by simp
  exact W_call (by rw [act_c hd rfl rfl]; simp only [cstep,chk,if_true,hr,e1,e2,hw,he,List.length_append,Nat.le_add_right,and_self])
theorem w_spec {i mx na sl a : Nat} {y' : MethodName} {b : ByteArray} {r : Option FieldType} {as rest : List Value} {en : List Slot} (hd : decode bytes pc = .ok (.invokespecial i,3)) (h0 : oR ws dn y i = none) (hr : nR ws dn y i = some (y',b,mx,r,na,sl)) (hn : as.length = na) (hw : wsum rest≤sl) (he : (ent (.ref a::as.reverse)).length≤mx) (hen : entry (.ref a::as.reverse) mx = en) :
    W ws dn k y bytes ret pc ls (as ++ .ref a::rest) H Q = W ws dn k y' b r 0 en [] H (fun v H1 => W ws dn k y bytes ret (pc + 3) ls (v.toList ++ rest) H1 Q):=by
  subst hn hen
  have e1 : (as ++ .ref a::rest).take as.length = as:=by simp
  have e2 : (as ++ .ref a::rest).drop as.length = .ref a::rest:=by simp
  exact W_call (by rw [act_c hd rfl rfl]; simp only [cstep,chk,if_true,h0,hr,e1,e2,hw,he,List.length_append,Nat.le_add_right,and_self])
theorem w_virt {i mx na sl a : Nat} {pv : Bool} {y' : MethodName} {b : ByteArray} {r : Option FieldType} {as rest : List Value} {en : List Slot} {C : String} {vs : List Value} (hd : decode bytes pc = .ok (.invokevirtual i,3)) (hr : vR ws dn y i = some (pv,y',b,mx,r,na,sl)) (ho : H[a]? = some (.object C,vs)) (hC : C = y'.cls) (hn : as.length = na) (hw : wsum rest≤sl) (he : (ent (.ref a::as.reverse)).length≤mx) (hen : entry (.ref a::as.reverse) mx = en) :
    W ws dn k y bytes ret pc ls (as ++ .ref a::rest) H Q = W ws dn k y' b r 0 en [] H (fun v H1 => W ws dn k y bytes ret (pc + 3) ls (v.toList ++ rest) H1 Q):=by
  subst hn hen hC
  have e1 : (as ++ .ref a::rest).take as.length = as:=by simp
  have e2 : (as ++ .ref a::rest).drop as.length = .ref a::rest:=by simp
  exact W_call (by rw [act_c hd rfl rfl]; simp only [cstep,chk,if_true,hr,e1,e2,ho,hw,he,List.length_append,Nat.le_add_right,and_self,or_true])
end
theorem law_of {Z : State} {a0 : Array Value} {ws : Ws} {dn : Dn} {k sa n0 : Nat} (hw : ∀ d ∈ ws,d.before a0 Z = true) (l : Launch) {y : MethodName} {b : ByteArray} {mx f lc rc rs : Nat} {r : Option FieldType} (wsx : List Jvm.Cond) (hp : Jvm.plainName y.cls = true) {as : List Value} (he : (ent as).length≤mx) {H : AHeap}
    (hW : W ws dn k y b r 0 (entry as mx) [] H (fun v H1 => v = some (.int 1)∧H1.length - H.length≤rc∧tot ws H1 - tot ws H≤rs)) (hdn : ∀ f' l',dnOf dn y = some (f',l')→f'≤f∧l'≤lc) {h : Heap} (S : Sim Z ws k sa n0 H h) :
    MetFree l y (head1 (Jvm.Cond.code y b mx r::wsx) ({ frames:=f,cells:=rc,slots:=rs,locals:=lc } : Room)) (fun a U => a = (as.map (ren (adr k sa n0))).toArray∧Z.Warmed39 U.vm∧U.heap = h) (fun _ _ _ _ _ => True)
      (fun _ U o U' => ∃ w L,o = .returned w∧(w = some (.int 1)∧Fr n0 L)∧FrameEnd U o U' L rc rs):=by
  obtain ⟨n,v,H1,h1,rfl,h3,h4⟩:=hW
  have M:=met_of (snd hw n) l wsx hp he h1 hdn S h3 h4
  intro p e ha hc hk s m args below hf happ hP hK
  obtain ⟨n',o,g1,g2,g3,w,L,rfl,⟨rfl,-,N⟩,F⟩:=M p e ha hc hk s m args below hf happ hP hK
  exact ⟨n',_,g1,g2,g3,_,L,rfl,⟨rfl,N⟩,F.1,F.2.1,F.2.2.mono h3 h4⟩
theorem Sim.script {Z : State} (ws : Ws) {h : Heap} {a : Addr} {c : Cell} {vs : List Int32} (A : Arr Z h a c .int) (e : c.slots = (vs.map Value.int).toArray) : Sim Z ws 1 a h.size [(.array .int,vs.map Value.int)] h:=by
  refine ⟨by simp,Nat.le_refl _,Nat.le_refl _,fun _ => A.lt,fun i o q => ?_⟩
  cases i with
  | zero =>
    cases q
    refine ⟨c,A,e.trans ?_⟩
    rw [List.map_map]; rfl
  | succ i => cases q
end Jvm.Own
namespace Jvm.Own
open Sem ClassFile Op Lib Jvm.Stand Jvm.Free Jvm.LawKit Jvm.RoadKit
def ou {α : Type} (s : Nat→α) (i : Nat) (v : α) : Nat→α:=fun j => if j = i then v else s j
theorem ou_a {α : Type} (s : Nat→α) (i : Nat) (v : α) (j : Nat) : ou s i v j = if j = i then v else s j:=rfl
def pad (b : Nat) (pre : AHeap) : AHeap:=(pre ++ List.replicate b (FieldType.int,[])).take b
theorem pad_len (b : Nat) (pre : AHeap) : (pad b pre).length = b:=by simp [pad]
theorem pad_eq {b : Nat} {pre : AHeap} (h : pre.length = b) : pad b pre = pre:=by subst h; simp [pad]
theorem pad_0 (pre : AHeap) : pad 0 pre = []:=by simp [pad]
theorem tot_cons (ws : Ws) (o : FieldType × List Value) (r : AHeap) : tot ws (o::r) = cost ws o + tot ws r:=by simp [tot]
theorem tot_append (ws : Ws) (a r : AHeap) : tot ws (a ++ r) = tot ws a + tot ws r:=by simp [tot]
theorem tot_nil (ws : Ws) : tot ws [] = 0:=rfl
theorem pad_get (b : Nat) (pre r : AHeap) (i : Nat) : (pad b pre ++ r)[b + i]? = r[i]?:=by
  rw [List.getElem?_append_right (by rw [pad_len]; omega),pad_len]; congr 1; omega
theorem pad_get0 (b : Nat) (pre r : AHeap) : (pad b pre ++ r)[b]? = r[0]?:=pad_get b pre r 0
theorem pad_set (b : Nat) (pre r : AHeap) (i : Nat) (o : FieldType × List Value) : (pad b pre ++ r).set (b + i) o = pad b pre ++ r.set i o:=by
  rw [List.set_append_right _ _ (by rw [pad_len]; omega),pad_len]; congr 2; omega
theorem pad_set0 (b : Nat) (pre r : AHeap) (o : FieldType × List Value) : (pad b pre ++ r).set b o = pad b pre ++ r.set 0 o:=pad_set b pre r 0 o
theorem rCode_of {ws : Ws} {y : MethodName} {b : ByteArray} {m i : Nat} {r : Option FieldType} (h : ws[i]? = some (.code y b m r)) (h2 : (ws.take i).all (fun d => match d with | .code z _ _ _ => !decide (z = y) | _ => true) = true) : rCode ws y = some (b,m,r):=by
  have e : ws = ws.take i ++ (.code y b m r::ws.drop (i + 1)):=by
    obtain ⟨hi,hg⟩:=List.getElem?_eq_some_iff.mp h
    rw [← hg,← List.drop_eq_getElem_cons hi,List.take_append_drop]
  unfold rCode
  rw [e,List.findSome?_append]
  have e1 : (ws.take i).findSome? (fun d => match d with | .code z b m r => if z = y then some (b,m,r) else none | _ => none) = none:=by
    rw [List.findSome?_eq_none_iff]
    intro d hd
    have q:=List.all_eq_true.mp h2 d hd
    split
    · rename_i z b' m' r'
      simp at q
      simp [q]
    · rfl
  rw [e1]
  simp
theorem cR_of {ws : Ws} {dn : Dn} {y y' : MethodName} {b : ByteArray} {mx i f' l' f l na sl : Nat} {r : Option FieldType} {sig : MethodDescriptor} (h1 : rMth ws y.cls i = some y') (h2 : rCode ws y' = some (b,mx,r)) (h3 : dnOf dn y' = some (f',l')) (h4 : dnOf dn y = some (f,l)) (h5 : parseMethodDescriptor y'.desc = some sig)
    (h6 : decide (hasInit ws y'.cls = true∧Jvm.plainName y'.cls = true∧y'.cls ≠ "java/lang/invoke/MethodHandle" ∧ y'.cls ≠ "java/lang/invoke/VarHandle" ∧ f' + 1≤f∧mx + 11 + l'≤l) = true) (h7 : sig.parameters.length = na) (h8 : l - (mx + 11 + l') = sl) : cR ws dn y i = some (y',b,mx,r,na,sl):=by
  subst h7 h8
  unfold cR
  rw [h1]; dsimp only
  rw [h2,h3,h4,h5]; dsimp only
  rw [if_pos (of_decide_eq_true h6)]
theorem sR_of {ws : Ws} {dn : Dn} {y : MethodName} {i : Nat} {q : MethodName × ByteArray × Nat × Option FieldType × Nat × Nat} (h : cR ws dn y i = some q) (hs : hasStat ws q.1 = true) : sR ws dn y i = some q:=by
  unfold sR; rw [h]; dsimp only; rw [if_pos hs]
theorem nR_of {ws : Ws} {dn : Dn} {y : MethodName} {i : Nat} {q : MethodName × ByteArray × Nat × Option FieldType × Nat × Nat} (h : cR ws dn y i = some q) (h1 : q.1.name = "<init>") (h2 : hasIM ws q.1 = true) (h3 : q.2.2.2.1 = none) : nR ws dn y i = some q:=by
  unfold nR; rw [h]; dsimp only; rw [if_pos ⟨h1,h2,h3⟩]
theorem vR_of {ws : Ws} {dn : Dn} {y : MethodName} {i : Nat} {q : MethodName × ByteArray × Nat × Option FieldType × Nat × Nat} (h : cR ws dn y i = some q) (h1 : hasIM ws q.1 = true) (h2 : decide (hasPriv ws q.1 = true∧(rInst ws q.1.cls).isSome = true) = false) (h3 : decide (hasDecl ws q.1 = true∧hasSel ws q.1 = true) = true) : vR ws dn y i = some (false,q):=by
  unfold vR; rw [h]; dsimp only; rw [if_pos h1,if_neg (of_decide_eq_false h2),if_pos (of_decide_eq_true h3)]
theorem pR_of {ws : Ws} {dn : Dn} {y : MethodName} {i : Nat} {q : MethodName × ByteArray × Nat × Option FieldType × Nat × Nat} (h : cR ws dn y i = some q) (h1 : hasIM ws q.1 = true) (h2 : decide (hasPriv ws q.1 = true∧(rInst ws q.1.cls).isSome = true) = true) : vR ws dn y i = some (true,q):=by
  unfold vR; rw [h]; dsimp only; rw [if_pos h1,if_pos (of_decide_eq_true h2)]
def inB {α : Type} (j : Int32) (l : List α) : Prop:=¬ j < 0∧j.toNatClampNeg < l.length
def getA (l : List Int32) (j : Int32) : Int32:=l.getD j.toNatClampNeg 0
def setA {α : Type} (l : List α) (j : Int32) (v : α) : List α:=l.set j.toNatClampNeg v
def c1 : Slot→Bool
  | .unset => true
  | .second => false
  | .val v => v.category == 1
theorem i_eq (x y : Int32) : if_icmp.holds .eq x y = decide (x = y):=by simp only [if_icmp.holds]; by_cases h : x = y <;> simp [h]
theorem i_ne (x y : Int32) : if_icmp.holds .ne x y = !decide (x = y):=by simp only [if_icmp.holds]; by_cases h : x = y <;> simp [h]
theorem i_lt (x y : Int32) : if_icmp.holds .lt x y = decide (x < y):=rfl
theorem i_gt (x y : Int32) : if_icmp.holds .gt x y = decide (y < x):=rfl
theorem i_ge (x y : Int32) : if_icmp.holds .ge x y = !decide (x < y):=by
  show decide (y≤x) = _
  have e1 : (y≤x) ↔ ¬ (x < y):=by rw [Int32.le_iff_toInt_le,Int32.lt_iff_toInt_lt]; omega
  by_cases h : x < y
  · have : ¬ y≤x:=fun g => e1.mp g h
    simp [h,this]
  · have:=e1.mpr h
    simp [h,this]
theorem i_le (x y : Int32) : if_icmp.holds .le x y = !decide (y < x):=i_ge y x
theorem z_eq (x : Int32) : ifCond.holds .eq x = decide (x = 0):=i_eq x 0
theorem z_ne (x : Int32) : ifCond.holds .ne x = !decide (x = 0):=i_ne x 0
theorem z_lt (x : Int32) : ifCond.holds .lt x = decide (x < 0):=rfl
theorem z_ge (x : Int32) : ifCond.holds .ge x = !decide (x < 0):=i_ge x 0
theorem nb0 : nar .boolean 0 = 0:=by decide
theorem nb1 : nar .boolean 1 = 1:=by decide
section
variable {ws : Ws} {dn : Dn} {k : Nat} {y : MethodName} {bytes : ByteArray} {ret : Option FieldType} {pc : Nat} {ls : List Slot} {st : List Value} {H : AHeap} {Q : Option Value→AHeap→Prop}
theorem W_stuck (h : act ws dn k y bytes ret pc ls st H = none) : W ws dn k y bytes ret pc ls st H Q = False:=by
  refine propext ⟨fun ⟨n,v,H1,h1,h2⟩ => ?_,False.elim⟩
  cases n with
  | zero => cases h1
  | succ n => rw [run,h] at h1; cases h1
theorem stl_c1 {i : Nat} {o : Slot} {v : Value} (ho : ls[i]? = some o) (hc : c1 o = true) (hv : v.category = 1) : stl ls i v = some (ls.set i (.val v)):=by
  have h:=XS.store1 (l:=ls.toArray) (i:=i) (v:=v) (o:=o) (by simpa using ho) (by
    cases o with
    | unset => exact Or.inl rfl
    | second => cases hc
    | val w => exact Or.inr ⟨w,rfl,by simpa [c1] using hc⟩) hv
  unfold stl
  rw [h]; simp
theorem w_st {ins : Instr} {len i : Nat} {o : Slot} {v : Value} {p : Value→Bool} {nx : Nat} {ls' : List Slot} (hd : decode bytes pc = .ok (ins,len)) (hx : xstep ins len pc ls (v::st) = stV p nx i ls (v::st)) (hp : p v = true) (hv : v.category = 1) (ho : ls[i]? = some o) (hs : ls.set i (.val v) = ls') (hc : c1 o = true) :
    W ws dn k y bytes ret pc ls (v::st) H Q = W ws dn k y bytes ret nx ls' st H Q:=by
  subst hs
  exact w_x hd (by rw [hx]; simp only [stV,hp,if_true,stl_c1 ho hc hv,Option.map_some])
theorem w_iinc {i : Nat} {c : Int} {x z : Int32} {ls' : List Slot} (hd : decode bytes pc = .ok (.iinc i c,3)) (ho : ls[i]? = some (.val (.int x))) (hz : Int32.ofInt c = z) (hs : ls.set i (.val (.int (x + z))) = ls') :
    W ws dn k y bytes ret pc ls st H Q = W ws dn k y bytes ret (pc + 3) ls' st H Q:=by
  subst hs hz
  exact w_x hd (by simp only [xstep,chk,if_true,ho,stl_c1 (v:=.int (x + Int32.ofInt c)) ho rfl rfl,Option.map_some])
theorem w_con {ins : Instr} {len nx : Nat} {v v' : Value} (hd : decode bytes pc = .ok (ins,len)) (hx : xstep ins len pc ls st = some (nx,ls,v::st)) (hv : v = v') : W ws dn k y bytes ret pc ls st H Q = W ws dn k y bytes ret nx ls (v'::st) H Q:=by
  subst hv; exact w_x hd hx
theorem w_ifN {cd : ClassFile.Cond} {o : Int} {x : Int32} {t : Nat} {P : Prop} [Decidable P] (hd : decode bytes pc = .ok (.ifCond cd o,3)) (hp : ifCond.holds cd x = !decide P) (hj : jmp pc o = some t) :
    W ws dn k y bytes ret pc ls (.int x::st) H Q = if P then W ws dn k y bytes ret (pc + 3) ls st H Q else W ws dn k y bytes ret t ls st H Q:=by
  split
  · exact w_x hd (by simp only [xstep,chk,br,hp,hj,if_true]; simp [*])
  · exact w_x hd (by simp only [xstep,chk,br,hp,hj,if_true]; simp [*])
theorem w_icmpN {cd : ClassFile.Cond} {o : Int} {x1 x2 : Int32} {t : Nat} {P : Prop} [Decidable P] (hd : decode bytes pc = .ok (.if_icmp cd o,3)) (hp : if_icmp.holds cd x1 x2 = !decide P) (hj : jmp pc o = some t) :
    W ws dn k y bytes ret pc ls (.int x2::.int x1::st) H Q = if P then W ws dn k y bytes ret (pc + 3) ls st H Q else W ws dn k y bytes ret t ls st H Q:=by
  split
  · exact w_x hd (by simp only [xstep,chk,br,hp,hj,if_true]; simp [*])
  · exact w_x hd (by simp only [xstep,chk,br,hp,hj,if_true]; simp [*])
theorem ld_stuck {ins : Instr} {a : Nat} {j : Int32} {ty : FieldType} {vs : List Value} (hd : decode bytes pc = .ok (ins,1)) (hi : ldOk ins ty = true) (ho : H[a]? = some (.array ty,vs)) (hj : ¬ (¬ j < 0∧j.toNatClampNeg < vs.length)) : act ws dn k y bytes ret pc ls (.int j::.ref a::st) H = none:=by
  have hv : j < 0 ∨ vs[j.toNatClampNeg]? = none:=by
    by_cases q : j < 0
    · exact Or.inl q
    · exact Or.inr (List.getElem?_eq_none (Nat.le_of_not_lt fun g => hj ⟨q,g⟩))
  unfold ldOk at hi
  split at hi
  all_goals first
    | (rw [act_c hd rfl (by rcases hv with q | q <;> simp [hstep,chk,hLd,okT,okB,ho,q])]; rfl)
    | cases hi
theorem st_stuck {ins : Instr} {a : Nat} {j : Int32} {ty : FieldType} {vs : List Value} {v : Value} (hd : decode bytes pc = .ok (ins,1)) (hi : stOk ins ty = true) (ho : H[a]? = some (.array ty,vs)) (hj : ¬ (¬ j < 0∧j.toNatClampNeg < vs.length)) : act ws dn k y bytes ret pc ls (v::.int j::.ref a::st) H = none:=by
  have hv : ¬ (¬ j < 0∧j.toNatClampNeg < vs.length):=hj
  unfold stOk at hi
  split at hi
  all_goals first
    | (rw [act_c hd rfl (by simp only [hstep,chk,hSt,okT,okB,ho,if_true]; rw [if_neg (fun q => hv q.2.2)])]; rfl)
    | cases hi
theorem w_ild {ins : Instr} {a : Nat} {j : Int32} {ty : FieldType} {l : List Int32} (hd : decode bytes pc = .ok (ins,1)) (hi : ldOk ins ty = true) (ho : H[a]? = some (.array ty,l.map Value.int)) :
    W ws dn k y bytes ret pc ls (.int j::.ref a::st) H Q = (inB j l∧W ws dn k y bytes ret (pc + 1) ls (.int (getA l j)::st) H Q):=by
  by_cases h : inB j l
  · rw [w_ald hd hi ho h.1 (v:=.int (getA l j)) (by simp [getA,h.2])]
    simp [h]
  · rw [W_stuck (ld_stuck hd hi ho (by simpa [inB] using h))]
    simp [h]
theorem w_ist {ins : Instr} {a : Nat} {j v v' : Int32} {ty : FieldType} {l : List Int32} {H' : AHeap} (hd : decode bytes pc = .ok (ins,1)) (hi : stOk ins ty = true) (ho : H[a]? = some (.array ty,l.map Value.int)) (hk : k≤a) (hv : putv ty (.int v) = some (.int v')) (hH : H.set a (.array ty,(setA l j v').map Value.int) = H') :
    W ws dn k y bytes ret pc ls (.int v::.int j::.ref a::st) H Q = (inB j l∧W ws dn k y bytes ret (pc + 1) ls st H' Q):=by
  by_cases h : inB j l
  · rw [w_ast (H':=H') hd hi ho hk h.1 (by simpa using h.2) hv (by rw [← hH,setA,List.map_set])]
    simp [h]
  · rw [W_stuck (st_stuck hd hi ho (by simpa [inB] using h))]
    simp [h]
theorem w_div {ins : Instr} {f : Int32→Int32→Int32} {x z : Int32} (hd : decode bytes pc = .ok (ins,1)) (hx : ∀ st,xstep ins 1 pc ls st = d2 f (pc + 1) ls st) (hh : hstep ws k y ins 1 pc (.int z::.int x::st) H = none) (hc : cstep ws dn y ret ins 1 pc ls (.int z::.int x::st) H = none) :
    W ws dn k y bytes ret pc ls (.int z::.int x::st) H Q = (z ≠ 0∧W ws dn k y bytes ret (pc + 1) ls (.int (f x z)::st) H Q):=by
  by_cases h : z = 0
  · rw [W_stuck (by rw [act_c hd (by rw [hx]; simp [d2,h]) hh,hc])]; simp [h]
  · rw [w_x (pc':=pc + 1) (ls':=ls) (st':=.int (f x z)::st) hd (by rw [hx]; simp only [d2,h,if_false])]; simp [h]
theorem w_iarr {i j p1 p2 p3 : Nat} {C : String} {vs : List Value} {r : AHeap} {n : Int32} {v : Value} {aty : ArrayType} {ty at' : FieldType} {l0 : Slot} {lr : List Slot} {ins : Instr} {len : Nat} {b : Nat} (hl : l0 = .val (.ref b)) (hH : H.length = b) (hk : k≤b)
    (d0 : decode bytes pc = .ok (.aload_n 0,1)) (e0 : pc + 1 = p1) (dn1 : decode bytes p1 = .ok (ins,len)) (hx : ∀ st,xstep ins len p1 (l0::lr) st = some (p2,l0::lr,v::st)) (hv : v = .int n) (d2' : decode bytes p2 = .ok (.newarray aty,2)) (ht : newarray.typeOf aty = ty) (hr : hasArr ws ty = true) (hn : ¬ n < 0) (hb : n.toNatClampNeg * 8≤536870912) (e3 : p2 + 2 = p3)
    (d3 : decode bytes p3 = .ok (.putfield i,3)) (hp : pfR ws y.cls y.name i = some (C,j,.array at')) (hj : j < vs.length) :
    W ws dn k y bytes ret pc (l0::lr) [] (H ++ (.object C,vs)::r) Q = W ws dn k y bytes ret (p3 + 3) (l0::lr) [] (H ++ (.object C,vs.set j (.ref (b + (r.length + 1))))::(r ++ [(.array ty,List.replicate n.toNatClampNeg (defaultValue ty))])) Q:=by
  subst hl e0 e3 hv hH
  rw [w_x d0 (ls':=.val (.ref H.length)::lr) (st':=[.ref H.length]) (pc':=pc + 1) rfl,w_x dn1 (hx _),w_newA d2' ht hr hn hb]
  have e1 : (H ++ (FieldType.object C,vs)::r).length = H.length + (r.length + 1):=by simp
  rw [e1,w_put d3 hp (vs:=vs) (H':=H ++ (.object C,vs.set j (.ref (H.length + (r.length + 1))))::(r ++ [(.array ty,List.replicate n.toNatClampNeg (defaultValue ty))])) (by simp) hk hj rfl (by simp)]
end
end Jvm.Own
namespace Jvm.Own
open Sem ClassFile Op Lib Jvm.Stand Jvm.Free Jvm.LawKit Jvm.RoadKit
theorem getA_rep (n : Nat) (j : Int32) : getA (List.replicate n 0) j = 0:=by
  simp only [getA,List.getD_eq_getElem?_getD,List.getElem?_replicate]
  split <;> rfl
theorem script_of {s : State} {a : Addr} {c : Cell} (hf : Fit s) (A : Arr s s.heap a c .int) (hl : c.slots.size < 2 ^ 31) : ∃ vs : List Int32,c.slots = (vs.map Value.int).toArray:=by
  have h : ∀ v ∈ c.slots.toList,∃ x : Int32,v = .int x:=fun v hv => by
    obtain ⟨i,hi,e⟩:=List.getElem_of_mem hv
    have hi' : i < c.slots.size:=by simpa using hi
    have e1 : (Nat.toInt32 i).toNatClampNeg = i:=by simp only [Int32.toNatClampNeg,len_toInt (Nat.lt_trans hi' hl)]; rfl
    obtain ⟨w,h1,h2⟩:=elem_fit hf A (idx_in hi' hl)
    rw [e1] at h1
    have : w = v:=by rw [Array.getElem?_eq_getElem hi'] at h1; rw [← e]; simpa using (Option.some.inj h1).symm
    subst this
    exact fit_I h2 (by simp)
  have g : ∀ l : List Value,(∀ v ∈ l,∃ x : Int32,v = .int x)→∃ vs : List Int32,l = vs.map Value.int:=fun l => by
    induction l with
    | nil => exact fun _ => ⟨[],rfl⟩
    | cons v r ih =>
      intro q
      obtain ⟨x,rfl⟩:=q _ (List.mem_cons_self ..)
      obtain ⟨vs,e⟩:=ih fun w hw => q w (List.mem_cons_of_mem _ hw)
      exact ⟨x::vs,by rw [e]; rfl⟩
  obtain ⟨vs,e⟩:=g _ h
  exact ⟨vs,by rw [← e]⟩
end Jvm.Own
namespace Jvm.Own
open Sem ClassFile Op Lib Jvm.Stand Jvm.Free Jvm.LawKit Jvm.RoadKit
theorem toNat_eq (j : Int32) : j.toNatClampNeg = j.toInt.toNat:=rfl
theorem lt_i {x y : Int32} : x < y ↔ x.toInt < y.toInt:=Int32.lt_iff_toInt_lt
theorem inB_iff {α : Type} {j : Int32} {l : List α} : inB j l ↔ 0≤j.toInt∧j.toInt < (l.length : Int):=by
  have e0 : (0 : Int32).toInt = 0:=rfl
  unfold inB
  rw [lt_i,toNat_eq,e0]
  omega
theorem setA_len {α : Type} (l : List α) (j : Int32) (v : α) : (setA l j v).length = l.length:=List.length_set
theorem getA_set2 (l : List Int32) (i j v : Int32) : getA (setA l i v) j = if j.toNatClampNeg = i.toNatClampNeg∧i.toNatClampNeg < l.length then v else getA l j:=by
  simp only [getA,setA,List.getD_eq_getElem?_getD,List.getElem?_set]
  by_cases e : j.toNatClampNeg = i.toNatClampNeg
  · rw [e]
    by_cases q : i.toNatClampNeg < l.length <;> simp [q]
  · simp [e,Ne.symm e]
theorem len_ou {B A : Nat→List Int32} {j : Nat} {l : List Int32} (h : ∀ i,(A i).length = (B i).length) (hl : l.length = (B j).length) : ∀ i,(ou A j l i).length = (B i).length:=fun i => by
  rw [ou_a]
  split
  · rename_i e; rw [e]; exact hl
  · exact h i
end Jvm.Own
namespace Jvm.Own
open Sem ClassFile Op Lib Jvm.Stand Jvm.Free Jvm.LawKit Jvm.RoadKit
theorem rng {x : Int32} {n : Nat} (h0 : 0≤x.toInt) (h1 : x.toInt < n) : ∃ k,k < n∧x = Int32.ofNat k:=by
  have e : (x.toInt.toNat : Int) = x.toInt:=Int.toNat_of_nonneg h0
  refine ⟨x.toInt.toNat,by omega,?_⟩
  have e2 : Int32.ofNat x.toInt.toNat = Int32.ofInt (x.toInt.toNat : Int):=rfl
  rw [e2,e,Int32.ofInt_toInt]
theorem add_i {a b : Int32} (h : -2147483648≤a.toInt + b.toInt) (h' : a.toInt + b.toInt < 2147483648) : (a + b).toInt = a.toInt + b.toInt:=by
  rw [Int32.toInt_add]
  have e : ((2 ^ 32 : Nat) : Int) = 4294967296:=rfl
  exact Int.bmod_eq_of_le (by rw [e]; omega) (by rw [e]; omega)
theorem sub_i {a b : Int32} (h : -2147483648≤a.toInt - b.toInt) (h' : a.toInt - b.toInt < 2147483648) : (a - b).toInt = a.toInt - b.toInt:=by
  rw [Int32.toInt_sub]
  have e : ((2 ^ 32 : Nat) : Int) = 4294967296:=rfl
  exact Int.bmod_eq_of_le (by rw [e]; omega) (by rw [e]; omega)
theorem i_0 : (0 : Int32).toInt = 0:=rfl
theorem i_1 : (1 : Int32).toInt = 1:=rfl
theorem nn_i {a : Int32} : ¬ a < 0 ↔ 0≤a.toInt:=by rw [lt_i,i_0]; omega
theorem pad_1 (c : FieldType × List Value) : pad 1 [c] = [c]:=rfl
def okS (l : Slot) : Prop:=l = .unset ∨ ∃ z : Int32,l = .val (.int z)
theorem okS_u : okS .unset:=Or.inl rfl
theorem okS_i (z : Int32) : okS (.val (.int z)):=Or.inr ⟨z,rfl⟩
end Jvm.Own
namespace Jvm.Pilot.@@N@@
open Jvm Jvm.ClassFile Sem Op Lib Jvm.Free Jvm.Stand Jvm.LawKit Jvm.RoadKit Bundle Jvm.Own Jvm.Pilot.@@N@@.Jvm.D
/-- frames and words that each method asks -/
def dn : Dn:=[(⟨"RetimingEngine", "<init>", "()V"⟩,1,12),(⟨"RetimingEngine", "addVertex", "(III)I"⟩,0,0),(⟨"RetimingEngine", "addEdge", "(III)I"⟩,0,0),(⟨"RetimingEngine", "retime", "()I"⟩,3,49),(⟨"RetimingEngine", "topo", "(I)Z"⟩,1,14),(⟨"RetimingEngine", "xOf", "(II)I"⟩,0,0),(⟨"RetimingEngine", "period", "(I)I"⟩,1,14),(⟨"RetimingEngine", "computePairs", "()V"⟩,2,32),(⟨"RetimingEngine", "offer", "(III)V"⟩,0,0),(⟨"RetimingEngine", "relaxVia", "(I)V"⟩,1,15),(⟨"RetimingEngine", "searchMin", "()I"⟩,2,32),(⟨"RetimingEngine", "feasible", "(I)Z"⟩,1,18),(⟨"RetimingEngine", "relaxPass", "(I)Z"⟩,0,0),(⟨"RetimingEngine", "applyLags", "()V"⟩,0,0),(⟨"RetimingEngine", "edgeCount", "()I"⟩,0,0),(⟨"RetimingEngine", "originalPeriod", "()I"⟩,0,0),(⟨"RetimingEngine", "minPeriod", "()I"⟩,0,0),(⟨"RetimingEngine", "retimedPeriod", "()I"⟩,0,0),(⟨"RetimingEngine", "lag", "(I)I"⟩,0,0),(⟨"RetimingEngine", "retimedRegs", "(I)I"⟩,0,0),(⟨"RetimingEngine", "regWeight", "(II)I"⟩,1,14),(⟨"RetimingEngine", "checkPair", "(II)I"⟩,0,0),(⟨"RetimingEngine", "pathDelay", "(II)I"⟩,1,14),(⟨"RetimingEngineOwnLaw", "cell", "([II)I"⟩,0,0),(⟨"RetimingEngineOwnLaw", "mod", "(II)I"⟩,0,0),(⟨"RetimingEngineOwnLaw", "dl", "([II)I"⟩,1,14),(⟨"RetimingEngineOwnLaw", "src", "([III)I"⟩,1,14),(⟨"RetimingEngineOwnLaw", "dst", "([III)I"⟩,1,14),(⟨"RetimingEngineOwnLaw", "rg", "([II)I"⟩,1,14),(⟨"RetimingEngineOwnLaw", "period", "([IIIJ)I"⟩,2,31),(⟨"RetimingEngineOwnLaw", "put", "(JIII)J"⟩,0,0),(⟨"RetimingEngineOwnLaw", "get", "(JII)I"⟩,0,0),(⟨"RetimingEngineOwnLaw", "sssp", "([IIII)J"⟩,2,32),(⟨"RetimingEngineOwnLaw", "feasible", "([IIII)Z"⟩,3,55),(⟨"RetimingEngineOwnLaw", "law", "([I)Z"⟩,4,82)]
def objv (b : Nat) (s : Nat→Int32) : List Value:=[.ref (b + 1),.ref (b + 2),.ref (b + 3),.ref (b + 4),.ref (b + 5),.ref (b + 6),.ref (b + 7),.ref (b + 8),.ref (b + 9),.ref (b + 10),.ref (b + 11),.ref (b + 12),.ref (b + 13),.ref (b + 14),.ref (b + 15),.ref (b + 16),.ref (b + 17),.ref (b + 18),.int (s 0),.int (s 1),.int (s 2),.int (s 3),.int (s 4),.int (s 6),.int (s 5),.int (s 7)]
def put (b : Nat) (pre : AHeap) (s : Nat→Int32) (A : Nat→List Int32) (post : AHeap) : AHeap:=pad b pre ++ ((.object "RetimingEngine", objv b s)::(.array .int,(A 0).map Value.int)::(.array .int,(A 1).map Value.int)::(.array .int,(A 2).map Value.int)::(.array .int,(A 3).map Value.int)::(.array .int,(A 4).map Value.int)::(.array .int,(A 5).map Value.int)::(.array .int,(A 6).map Value.int)::(.array .int,(A 7).map Value.int)::(.array .int,(A 8).map Value.int)::(.array .int,(A 9).map Value.int)::(.array .int,(A 10).map Value.int)::(.array .boolean,(A 11).map Value.int)::(.array .int,(A 12).map Value.int)::(.array .int,(A 13).map Value.int)::(.array .int,(A 14).map Value.int)::(.array .int,(A 15).map Value.int)::(.array .int,(A 16).map Value.int)::(.array .int,(A 17).map Value.int)::post)
section Put
variable {b : Nat} {pre : AHeap} {s : Nat→Int32} {A : Nat→List Int32} {post : AHeap}
theorem put_o  : (put b pre s A post)[b]? = some (.object "RetimingEngine", objv b s):=pad_get0 _ _ _
theorem put_a0  : (put b pre s A post)[b + 1]? = some (.array .int,(A 0).map Value.int):=pad_get _ _ _ 1
theorem put_w0  {l : List Int32} : (put b pre s A post).set (b + 1) (.array .int,l.map Value.int) = put b pre s (ou A 0 l) post:=pad_set _ _ _ 1 _
theorem put_a1  : (put b pre s A post)[b + 2]? = some (.array .int,(A 1).map Value.int):=pad_get _ _ _ 2
theorem put_w1  {l : List Int32} : (put b pre s A post).set (b + 2) (.array .int,l.map Value.int) = put b pre s (ou A 1 l) post:=pad_set _ _ _ 2 _
theorem put_a2  : (put b pre s A post)[b + 3]? = some (.array .int,(A 2).map Value.int):=pad_get _ _ _ 3
theorem put_w2  {l : List Int32} : (put b pre s A post).set (b + 3) (.array .int,l.map Value.int) = put b pre s (ou A 2 l) post:=pad_set _ _ _ 3 _
theorem put_a3  : (put b pre s A post)[b + 4]? = some (.array .int,(A 3).map Value.int):=pad_get _ _ _ 4
theorem put_w3  {l : List Int32} : (put b pre s A post).set (b + 4) (.array .int,l.map Value.int) = put b pre s (ou A 3 l) post:=pad_set _ _ _ 4 _
theorem put_a4  : (put b pre s A post)[b + 5]? = some (.array .int,(A 4).map Value.int):=pad_get _ _ _ 5
theorem put_w4  {l : List Int32} : (put b pre s A post).set (b + 5) (.array .int,l.map Value.int) = put b pre s (ou A 4 l) post:=pad_set _ _ _ 5 _
theorem put_a5  : (put b pre s A post)[b + 6]? = some (.array .int,(A 5).map Value.int):=pad_get _ _ _ 6
theorem put_w5  {l : List Int32} : (put b pre s A post).set (b + 6) (.array .int,l.map Value.int) = put b pre s (ou A 5 l) post:=pad_set _ _ _ 6 _
theorem put_a6  : (put b pre s A post)[b + 7]? = some (.array .int,(A 6).map Value.int):=pad_get _ _ _ 7
theorem put_w6  {l : List Int32} : (put b pre s A post).set (b + 7) (.array .int,l.map Value.int) = put b pre s (ou A 6 l) post:=pad_set _ _ _ 7 _
theorem put_a7  : (put b pre s A post)[b + 8]? = some (.array .int,(A 7).map Value.int):=pad_get _ _ _ 8
theorem put_w7  {l : List Int32} : (put b pre s A post).set (b + 8) (.array .int,l.map Value.int) = put b pre s (ou A 7 l) post:=pad_set _ _ _ 8 _
theorem put_a8  : (put b pre s A post)[b + 9]? = some (.array .int,(A 8).map Value.int):=pad_get _ _ _ 9
theorem put_w8  {l : List Int32} : (put b pre s A post).set (b + 9) (.array .int,l.map Value.int) = put b pre s (ou A 8 l) post:=pad_set _ _ _ 9 _
theorem put_a9  : (put b pre s A post)[b + 10]? = some (.array .int,(A 9).map Value.int):=pad_get _ _ _ 10
theorem put_w9  {l : List Int32} : (put b pre s A post).set (b + 10) (.array .int,l.map Value.int) = put b pre s (ou A 9 l) post:=pad_set _ _ _ 10 _
theorem put_a10  : (put b pre s A post)[b + 11]? = some (.array .int,(A 10).map Value.int):=pad_get _ _ _ 11
theorem put_w10  {l : List Int32} : (put b pre s A post).set (b + 11) (.array .int,l.map Value.int) = put b pre s (ou A 10 l) post:=pad_set _ _ _ 11 _
theorem put_a11  : (put b pre s A post)[b + 12]? = some (.array .boolean,(A 11).map Value.int):=pad_get _ _ _ 12
theorem put_w11  {l : List Int32} : (put b pre s A post).set (b + 12) (.array .boolean,l.map Value.int) = put b pre s (ou A 11 l) post:=pad_set _ _ _ 12 _
theorem put_a12  : (put b pre s A post)[b + 13]? = some (.array .int,(A 12).map Value.int):=pad_get _ _ _ 13
theorem put_w12  {l : List Int32} : (put b pre s A post).set (b + 13) (.array .int,l.map Value.int) = put b pre s (ou A 12 l) post:=pad_set _ _ _ 13 _
theorem put_a13  : (put b pre s A post)[b + 14]? = some (.array .int,(A 13).map Value.int):=pad_get _ _ _ 14
theorem put_w13  {l : List Int32} : (put b pre s A post).set (b + 14) (.array .int,l.map Value.int) = put b pre s (ou A 13 l) post:=pad_set _ _ _ 14 _
theorem put_a14  : (put b pre s A post)[b + 15]? = some (.array .int,(A 14).map Value.int):=pad_get _ _ _ 15
theorem put_w14  {l : List Int32} : (put b pre s A post).set (b + 15) (.array .int,l.map Value.int) = put b pre s (ou A 14 l) post:=pad_set _ _ _ 15 _
theorem put_a15  : (put b pre s A post)[b + 16]? = some (.array .int,(A 15).map Value.int):=pad_get _ _ _ 16
theorem put_w15  {l : List Int32} : (put b pre s A post).set (b + 16) (.array .int,l.map Value.int) = put b pre s (ou A 15 l) post:=pad_set _ _ _ 16 _
theorem put_a16  : (put b pre s A post)[b + 17]? = some (.array .int,(A 16).map Value.int):=pad_get _ _ _ 17
theorem put_w16  {l : List Int32} : (put b pre s A post).set (b + 17) (.array .int,l.map Value.int) = put b pre s (ou A 16 l) post:=pad_set _ _ _ 17 _
theorem put_a17  : (put b pre s A post)[b + 18]? = some (.array .int,(A 17).map Value.int):=pad_get _ _ _ 18
theorem put_w17  {l : List Int32} : (put b pre s A post).set (b + 18) (.array .int,l.map Value.int) = put b pre s (ou A 17 l) post:=pad_set _ _ _ 18 _
theorem put_s0  {v : Int32} : (put b pre s A post).set b (.object "RetimingEngine", (objv b s).set 18 (.int v)) = put b pre (ou s 0 v) A post:=pad_set0 _ _ _ _
theorem put_s1  {v : Int32} : (put b pre s A post).set b (.object "RetimingEngine", (objv b s).set 19 (.int v)) = put b pre (ou s 1 v) A post:=pad_set0 _ _ _ _
theorem put_s2  {v : Int32} : (put b pre s A post).set b (.object "RetimingEngine", (objv b s).set 20 (.int v)) = put b pre (ou s 2 v) A post:=pad_set0 _ _ _ _
theorem put_s3  {v : Int32} : (put b pre s A post).set b (.object "RetimingEngine", (objv b s).set 21 (.int v)) = put b pre (ou s 3 v) A post:=pad_set0 _ _ _ _
theorem put_s4  {v : Int32} : (put b pre s A post).set b (.object "RetimingEngine", (objv b s).set 22 (.int v)) = put b pre (ou s 4 v) A post:=pad_set0 _ _ _ _
theorem put_s6  {v : Int32} : (put b pre s A post).set b (.object "RetimingEngine", (objv b s).set 23 (.int v)) = put b pre (ou s 6 v) A post:=pad_set0 _ _ _ _
theorem put_s5  {v : Int32} : (put b pre s A post).set b (.object "RetimingEngine", (objv b s).set 24 (.int v)) = put b pre (ou s 5 v) A post:=pad_set0 _ _ _ _
theorem put_s7  {v : Int32} : (put b pre s A post).set b (.object "RetimingEngine", (objv b s).set 25 (.int v)) = put b pre (ou s 7 v) A post:=pad_set0 _ _ _ _
theorem put_len  : (put b pre s A post).length = b + 19 + post.length:=by rw [put,List.length_append,pad_len]; simp only [List.length_cons]; omega
theorem inst0 : rInst tables_1 "RetimingEngine" = some 26:=by decide +kernel
theorem put_tot  : tot tables_1 (put b pre s A post) = tot tables_1 (pad b pre) + (26 + ((A 0).length + ((A 1).length + ((A 2).length + ((A 3).length + ((A 4).length + ((A 5).length + ((A 6).length + ((A 7).length + ((A 8).length + ((A 9).length + ((A 10).length + ((A 11).length + ((A 12).length + ((A 13).length + ((A 14).length + ((A 15).length + ((A 16).length + ((A 17).length + tot tables_1 post))))))))))))))))))):=by rw [put,tot_append]; simp only [tot_cons,cost,List.length_map,inst0,Option.getD_some]
end Put
def D0 : List Value:=[.null,.null,.null,.null,.null,.null,.null,.null,.null,.null,.null,.null,.null,.null,.null,.null,.null,.null,.int 0,.int 0,.int 0,.int 0,.int 0,.int 0,.int 0,.int 0]
theorem lay0 : (olay tables_1 "RetimingEngine").map dflt = D0:=by decide +kernel
abbrev y0 : MethodName:=⟨"RetimingEngine", "<init>", "()V"⟩
abbrev kb0 : ByteArray:=prog_1_method_1_code
def M0:=W tables_1 dn 1 y0 prog_1_method_1_code none
abbrev y1 : MethodName:=⟨"RetimingEngine", "addVertex", "(III)I"⟩
abbrev kb1 : ByteArray:=prog_1_method_2_code
def M1:=W tables_1 dn 1 y1 prog_1_method_2_code (some .int)
abbrev y2 : MethodName:=⟨"RetimingEngine", "addEdge", "(III)I"⟩
abbrev kb2 : ByteArray:=prog_1_method_3_code
def M2:=W tables_1 dn 1 y2 prog_1_method_3_code (some .int)
abbrev y3 : MethodName:=⟨"RetimingEngine", "retime", "()I"⟩
abbrev kb3 : ByteArray:=prog_1_method_4_code
def M3:=W tables_1 dn 1 y3 prog_1_method_4_code (some .int)
abbrev y4 : MethodName:=⟨"RetimingEngine", "topo", "(I)Z"⟩
abbrev kb4 : ByteArray:=prog_1_method_20_code
def M4:=W tables_1 dn 1 y4 prog_1_method_20_code (some .boolean)
abbrev y5 : MethodName:=⟨"RetimingEngine", "xOf", "(II)I"⟩
abbrev kb5 : ByteArray:=prog_1_method_19_code
def M5:=W tables_1 dn 1 y5 prog_1_method_19_code (some .int)
abbrev y6 : MethodName:=⟨"RetimingEngine", "period", "(I)I"⟩
abbrev kb6 : ByteArray:=prog_1_method_21_code
def M6:=W tables_1 dn 1 y6 prog_1_method_21_code (some .int)
abbrev y7 : MethodName:=⟨"RetimingEngine", "computePairs", "()V"⟩
abbrev kb7 : ByteArray:=prog_1_method_23_code
def M7:=W tables_1 dn 1 y7 prog_1_method_23_code none
abbrev y8 : MethodName:=⟨"RetimingEngine", "offer", "(III)V"⟩
abbrev kb8 : ByteArray:=prog_1_method_22_code
def M8:=W tables_1 dn 1 y8 prog_1_method_22_code none
abbrev y9 : MethodName:=⟨"RetimingEngine", "relaxVia", "(I)V"⟩
abbrev kb9 : ByteArray:=prog_1_method_24_code
def M9:=W tables_1 dn 1 y9 prog_1_method_24_code none
abbrev y10 : MethodName:=⟨"RetimingEngine", "searchMin", "()I"⟩
abbrev kb10 : ByteArray:=prog_1_method_25_code
def M10:=W tables_1 dn 1 y10 prog_1_method_25_code (some .int)
abbrev y11 : MethodName:=⟨"RetimingEngine", "feasible", "(I)Z"⟩
abbrev kb11 : ByteArray:=prog_1_method_26_code
def M11:=W tables_1 dn 1 y11 prog_1_method_26_code (some .boolean)
abbrev y12 : MethodName:=⟨"RetimingEngine", "relaxPass", "(I)Z"⟩
abbrev kb12 : ByteArray:=prog_1_method_27_code
def M12:=W tables_1 dn 1 y12 prog_1_method_27_code (some .boolean)
abbrev y13 : MethodName:=⟨"RetimingEngine", "applyLags", "()V"⟩
abbrev kb13 : ByteArray:=prog_1_method_28_code
def M13:=W tables_1 dn 1 y13 prog_1_method_28_code none
abbrev y14 : MethodName:=⟨"RetimingEngine", "edgeCount", "()I"⟩
abbrev kb14 : ByteArray:=prog_1_method_5_code
def M14:=W tables_1 dn 1 y14 prog_1_method_5_code (some .int)
abbrev y15 : MethodName:=⟨"RetimingEngine", "originalPeriod", "()I"⟩
abbrev kb15 : ByteArray:=prog_1_method_6_code
def M15:=W tables_1 dn 1 y15 prog_1_method_6_code (some .int)
abbrev y16 : MethodName:=⟨"RetimingEngine", "minPeriod", "()I"⟩
abbrev kb16 : ByteArray:=prog_1_method_7_code
def M16:=W tables_1 dn 1 y16 prog_1_method_7_code (some .int)
abbrev y17 : MethodName:=⟨"RetimingEngine", "retimedPeriod", "()I"⟩
abbrev kb17 : ByteArray:=prog_1_method_8_code
def M17:=W tables_1 dn 1 y17 prog_1_method_8_code (some .int)
abbrev y18 : MethodName:=⟨"RetimingEngine", "lag", "(I)I"⟩
abbrev kb18 : ByteArray:=prog_1_method_11_code
def M18:=W tables_1 dn 1 y18 prog_1_method_11_code (some .int)
abbrev y19 : MethodName:=⟨"RetimingEngine", "retimedRegs", "(I)I"⟩
abbrev kb19 : ByteArray:=prog_1_method_12_code
def M19:=W tables_1 dn 1 y19 prog_1_method_12_code (some .int)
abbrev y20 : MethodName:=⟨"RetimingEngine", "regWeight", "(II)I"⟩
abbrev kb20 : ByteArray:=prog_1_method_9_code
def M20:=W tables_1 dn 1 y20 prog_1_method_9_code (some .int)
abbrev y21 : MethodName:=⟨"RetimingEngine", "checkPair", "(II)I"⟩
abbrev kb21 : ByteArray:=prog_1_method_18_code
def M21:=W tables_1 dn 1 y21 prog_1_method_18_code (some .int)
abbrev y22 : MethodName:=⟨"RetimingEngine", "pathDelay", "(II)I"⟩
abbrev kb22 : ByteArray:=prog_1_method_10_code
def M22:=W tables_1 dn 1 y22 prog_1_method_10_code (some .int)
abbrev y23 : MethodName:=⟨"RetimingEngineOwnLaw", "cell", "([II)I"⟩
abbrev kb23 : ByteArray:=method_2_code
def M23:=W tables_1 dn 1 y23 method_2_code (some .int)
abbrev y24 : MethodName:=⟨"RetimingEngineOwnLaw", "mod", "(II)I"⟩
abbrev kb24 : ByteArray:=method_3_code
def M24:=W tables_1 dn 1 y24 method_3_code (some .int)
abbrev y25 : MethodName:=⟨"RetimingEngineOwnLaw", "dl", "([II)I"⟩
abbrev kb25 : ByteArray:=method_4_code
def M25:=W tables_1 dn 1 y25 method_4_code (some .int)
abbrev y26 : MethodName:=⟨"RetimingEngineOwnLaw", "src", "([III)I"⟩
abbrev kb26 : ByteArray:=method_5_code
def M26:=W tables_1 dn 1 y26 method_5_code (some .int)
abbrev y27 : MethodName:=⟨"RetimingEngineOwnLaw", "dst", "([III)I"⟩
abbrev kb27 : ByteArray:=method_6_code
def M27:=W tables_1 dn 1 y27 method_6_code (some .int)
abbrev y28 : MethodName:=⟨"RetimingEngineOwnLaw", "rg", "([II)I"⟩
abbrev kb28 : ByteArray:=method_7_code
def M28:=W tables_1 dn 1 y28 method_7_code (some .int)
abbrev y29 : MethodName:=⟨"RetimingEngineOwnLaw", "period", "([IIIJ)I"⟩
abbrev kb29 : ByteArray:=method_10_code
def M29:=W tables_1 dn 1 y29 method_10_code (some .int)
abbrev y30 : MethodName:=⟨"RetimingEngineOwnLaw", "put", "(JIII)J"⟩
abbrev kb30 : ByteArray:=method_9_code
def M30:=W tables_1 dn 1 y30 method_9_code (some .long)
abbrev y31 : MethodName:=⟨"RetimingEngineOwnLaw", "get", "(JII)I"⟩
abbrev kb31 : ByteArray:=method_8_code
def M31:=W tables_1 dn 1 y31 method_8_code (some .int)
abbrev y32 : MethodName:=⟨"RetimingEngineOwnLaw", "sssp", "([IIII)J"⟩
abbrev kb32 : ByteArray:=method_11_code
def M32:=W tables_1 dn 1 y32 method_11_code (some .long)
abbrev y33 : MethodName:=⟨"RetimingEngineOwnLaw", "feasible", "([IIII)Z"⟩
abbrev kb33 : ByteArray:=method_12_code
def M33:=W tables_1 dn 1 y33 method_12_code (some .boolean)
abbrev y34 : MethodName:=⟨"RetimingEngineOwnLaw", "law", "([I)Z"⟩
abbrev kb34 : ByteArray:=code
def M34:=W tables_1 dn 1 y34 code (some .boolean)
theorem dn_0 : dnOf dn y0 = some (1,12):=by decide +kernel
theorem rc_0 : rCode tables_1 y0 = some (prog_1_method_1_code,1,none):=rCode_of (i:=12) rfl (by decide +kernel)
theorem dn_1 : dnOf dn y1 = some (0,0):=by decide +kernel
theorem rc_1 : rCode tables_1 y1 = some (prog_1_method_2_code,4,some .int):=rCode_of (i:=71) rfl (by decide +kernel)
theorem dn_2 : dnOf dn y2 = some (0,0):=by decide +kernel
theorem rc_2 : rCode tables_1 y2 = some (prog_1_method_3_code,4,some .int):=rCode_of (i:=85) rfl (by decide +kernel)
theorem dn_3 : dnOf dn y3 = some (3,49):=by decide +kernel
theorem rc_3 : rCode tables_1 y3 = some (prog_1_method_4_code,1,some .int):=rCode_of (i:=90) rfl (by decide +kernel)
theorem dn_4 : dnOf dn y4 = some (1,14):=by decide +kernel
theorem rc_4 : rCode tables_1 y4 = some (prog_1_method_20_code,7,some .boolean):=rCode_of (i:=94) rfl (by decide +kernel)
theorem dn_5 : dnOf dn y5 = some (0,0):=by decide +kernel
theorem rc_5 : rCode tables_1 y5 = some (prog_1_method_19_code,3,some .int):=rCode_of (i:=98) rfl (by decide +kernel)
theorem dn_6 : dnOf dn y6 = some (1,14):=by decide +kernel
theorem rc_6 : rCode tables_1 y6 = some (prog_1_method_21_code,8,some .int):=rCode_of (i:=102) rfl (by decide +kernel)
theorem dn_7 : dnOf dn y7 = some (2,32):=by decide +kernel
theorem rc_7 : rCode tables_1 y7 = some (prog_1_method_23_code,3,none):=rCode_of (i:=108) rfl (by decide +kernel)
theorem dn_8 : dnOf dn y8 = some (0,0):=by decide +kernel
theorem rc_8 : rCode tables_1 y8 = some (prog_1_method_22_code,4,none):=rCode_of (i:=112) rfl (by decide +kernel)
theorem dn_9 : dnOf dn y9 = some (1,15):=by decide +kernel
theorem rc_9 : rCode tables_1 y9 = some (prog_1_method_24_code,6,none):=rCode_of (i:=116) rfl (by decide +kernel)
theorem dn_10 : dnOf dn y10 = some (2,32):=by decide +kernel
theorem rc_10 : rCode tables_1 y10 = some (prog_1_method_25_code,5,some .int):=rCode_of (i:=120) rfl (by decide +kernel)
theorem dn_11 : dnOf dn y11 = some (1,18):=by decide +kernel
theorem rc_11 : rCode tables_1 y11 = some (prog_1_method_26_code,3,some .boolean):=rCode_of (i:=124) rfl (by decide +kernel)
theorem dn_12 : dnOf dn y12 = some (0,0):=by decide +kernel
theorem rc_12 : rCode tables_1 y12 = some (prog_1_method_27_code,7,some .boolean):=rCode_of (i:=128) rfl (by decide +kernel)
theorem dn_13 : dnOf dn y13 = some (0,0):=by decide +kernel
theorem rc_13 : rCode tables_1 y13 = some (prog_1_method_28_code,2,none):=rCode_of (i:=134) rfl (by decide +kernel)
theorem dn_14 : dnOf dn y14 = some (0,0):=by decide +kernel
theorem rc_14 : rCode tables_1 y14 = some (prog_1_method_5_code,1,some .int):=rCode_of (i:=151) rfl (by decide +kernel)
theorem dn_15 : dnOf dn y15 = some (0,0):=by decide +kernel
theorem rc_15 : rCode tables_1 y15 = some (prog_1_method_6_code,1,some .int):=rCode_of (i:=156) rfl (by decide +kernel)
theorem dn_16 : dnOf dn y16 = some (0,0):=by decide +kernel
theorem rc_16 : rCode tables_1 y16 = some (prog_1_method_7_code,1,some .int):=rCode_of (i:=161) rfl (by decide +kernel)
theorem dn_17 : dnOf dn y17 = some (0,0):=by decide +kernel
theorem rc_17 : rCode tables_1 y17 = some (prog_1_method_8_code,1,some .int):=rCode_of (i:=166) rfl (by decide +kernel)
theorem dn_18 : dnOf dn y18 = some (0,0):=by decide +kernel
theorem rc_18 : rCode tables_1 y18 = some (prog_1_method_11_code,2,some .int):=rCode_of (i:=171) rfl (by decide +kernel)
theorem dn_19 : dnOf dn y19 = some (0,0):=by decide +kernel
theorem rc_19 : rCode tables_1 y19 = some (prog_1_method_12_code,2,some .int):=rCode_of (i:=176) rfl (by decide +kernel)
theorem dn_20 : dnOf dn y20 = some (1,14):=by decide +kernel
theorem rc_20 : rCode tables_1 y20 = some (prog_1_method_9_code,4,some .int):=rCode_of (i:=184) rfl (by decide +kernel)
theorem dn_21 : dnOf dn y21 = some (0,0):=by decide +kernel
theorem rc_21 : rCode tables_1 y21 = some (prog_1_method_18_code,3,some .int):=rCode_of (i:=188) rfl (by decide +kernel)
theorem dn_22 : dnOf dn y22 = some (1,14):=by decide +kernel
theorem rc_22 : rCode tables_1 y22 = some (prog_1_method_10_code,4,some .int):=rCode_of (i:=193) rfl (by decide +kernel)
theorem dn_23 : dnOf dn y23 = some (0,0):=by decide +kernel
theorem rc_23 : rCode tables_1 y23 = some (method_2_code,2,some .int):=rCode_of (i:=3) rfl (by decide +kernel)
theorem dn_24 : dnOf dn y24 = some (0,0):=by decide +kernel
theorem rc_24 : rCode tables_1 y24 = some (method_3_code,3,some .int):=rCode_of (i:=6) rfl (by decide +kernel)
theorem dn_25 : dnOf dn y25 = some (1,14):=by decide +kernel
theorem rc_25 : rCode tables_1 y25 = some (method_4_code,2,some .int):=rCode_of (i:=66) rfl (by decide +kernel)
theorem dn_26 : dnOf dn y26 = some (1,14):=by decide +kernel
theorem rc_26 : rCode tables_1 y26 = some (method_5_code,3,some .int):=rCode_of (i:=74) rfl (by decide +kernel)
theorem dn_27 : dnOf dn y27 = some (1,14):=by decide +kernel
theorem rc_27 : rCode tables_1 y27 = some (method_6_code,3,some .int):=rCode_of (i:=77) rfl (by decide +kernel)
theorem dn_28 : dnOf dn y28 = some (1,14):=by decide +kernel
theorem rc_28 : rCode tables_1 y28 = some (method_7_code,2,some .int):=rCode_of (i:=80) rfl (by decide +kernel)
theorem dn_29 : dnOf dn y29 = some (2,31):=by decide +kernel
theorem rc_29 : rCode tables_1 y29 = some (method_10_code,15,some .int):=rCode_of (i:=139) rfl (by decide +kernel)
theorem dn_30 : dnOf dn y30 = some (0,0):=by decide +kernel
theorem rc_30 : rCode tables_1 y30 = some (method_9_code,7,some .long):=rCode_of (i:=142) rfl (by decide +kernel)
theorem dn_31 : dnOf dn y31 = some (0,0):=by decide +kernel
theorem rc_31 : rCode tables_1 y31 = some (method_8_code,4,some .int):=rCode_of (i:=146) rfl (by decide +kernel)
theorem dn_32 : dnOf dn y32 = some (2,32):=by decide +kernel
theorem rc_32 : rCode tables_1 y32 = some (method_11_code,12,some .long):=rCode_of (i:=179) rfl (by decide +kernel)
theorem dn_33 : dnOf dn y33 = some (3,55):=by decide +kernel
theorem rc_33 : rCode tables_1 y33 = some (method_12_code,16,some .boolean):=rCode_of (i:=196) rfl (by decide +kernel)
theorem dn_34 : dnOf dn y34 = some (4,82):=by decide +kernel
theorem gf_7 : gfR tables_1 "RetimingEngine" 7 = some ("RetimingEngine", 0):=by decide +kernel
theorem gf_13 : gfR tables_1 "RetimingEngine" 13 = some ("RetimingEngine", 1):=by decide +kernel
theorem gf_16 : gfR tables_1 "RetimingEngine" 16 = some ("RetimingEngine", 2):=by decide +kernel
theorem gf_19 : gfR tables_1 "RetimingEngine" 19 = some ("RetimingEngine", 3):=by decide +kernel
theorem gf_22 : gfR tables_1 "RetimingEngine" 22 = some ("RetimingEngine", 4):=by decide +kernel
theorem gf_25 : gfR tables_1 "RetimingEngine" 25 = some ("RetimingEngine", 5):=by decide +kernel
theorem gf_28 : gfR tables_1 "RetimingEngine" 28 = some ("RetimingEngine", 6):=by decide +kernel
theorem gf_31 : gfR tables_1 "RetimingEngine" 31 = some ("RetimingEngine", 7):=by decide +kernel
theorem gf_34 : gfR tables_1 "RetimingEngine" 34 = some ("RetimingEngine", 8):=by decide +kernel
theorem gf_37 : gfR tables_1 "RetimingEngine" 37 = some ("RetimingEngine", 9):=by decide +kernel
theorem gf_40 : gfR tables_1 "RetimingEngine" 40 = some ("RetimingEngine", 10):=by decide +kernel
theorem gf_43 : gfR tables_1 "RetimingEngine" 43 = some ("RetimingEngine", 11):=by decide +kernel
theorem gf_47 : gfR tables_1 "RetimingEngine" 47 = some ("RetimingEngine", 12):=by decide +kernel
theorem gf_50 : gfR tables_1 "RetimingEngine" 50 = some ("RetimingEngine", 13):=by decide +kernel
theorem gf_53 : gfR tables_1 "RetimingEngine" 53 = some ("RetimingEngine", 14):=by decide +kernel
theorem gf_56 : gfR tables_1 "RetimingEngine" 56 = some ("RetimingEngine", 15):=by decide +kernel
theorem gf_59 : gfR tables_1 "RetimingEngine" 59 = some ("RetimingEngine", 16):=by decide +kernel
theorem gf_62 : gfR tables_1 "RetimingEngine" 62 = some ("RetimingEngine", 17):=by decide +kernel
theorem gf_65 : gfR tables_1 "RetimingEngine" 65 = some ("RetimingEngine", 18):=by decide +kernel
theorem gf_69 : gfR tables_1 "RetimingEngine" 69 = some ("RetimingEngine", 19):=by decide +kernel
theorem gf_72 : gfR tables_1 "RetimingEngine" 72 = some ("RetimingEngine", 20):=by decide +kernel
theorem gf_75 : gfR tables_1 "RetimingEngine" 75 = some ("RetimingEngine", 21):=by decide +kernel
theorem gf_78 : gfR tables_1 "RetimingEngine" 78 = some ("RetimingEngine", 22):=by decide +kernel
theorem gf_82 : gfR tables_1 "RetimingEngine" 82 = some ("RetimingEngine", 24):=by decide +kernel
theorem gf_93 : gfR tables_1 "RetimingEngine" 93 = some ("RetimingEngine", 23):=by decide +kernel
theorem gf_109 : gfR tables_1 "RetimingEngine" 109 = some ("RetimingEngine", 25):=by decide +kernel
theorem dc {c : ByteArray} {pc : Nat} (x : Instr × Nat) (h : decode c pc = .ok x:=by decide +kernel) : decode c pc = .ok x:=h
theorem w_ki {ws : Ws} {dn : Dn} {k : Nat} {y : MethodName} {bytes : ByteArray} {ret : Option FieldType} {pc : Nat} {ls : List Slot} {st : List Value} {H : AHeap} {Q : Option Value→AHeap→Prop} {ins : Instr} {len nx : Nat} {v : Value} (n : Int32) (hd : decode bytes pc = .ok (ins,len)) (hx : xstep ins len pc ls st = some (nx,ls,v::st)) (hv : v = .int n:=by decide) : W ws dn k y bytes ret pc ls st H Q = W ws dn k y bytes ret nx ls (.int n::st) H Q:=w_con hd hx hv
theorem w_kl {ws : Ws} {dn : Dn} {k : Nat} {y : MethodName} {bytes : ByteArray} {ret : Option FieldType} {pc : Nat} {ls : List Slot} {st : List Value} {H : AHeap} {Q : Option Value→AHeap→Prop} {ins : Instr} {len nx : Nat} {v : Value} (n : Int64) (hd : decode bytes pc = .ok (ins,len)) (hx : xstep ins len pc ls st = some (nx,ls,v::st)) (hv : v = .long n:=by decide) : W ws dn k y bytes ret pc ls st H Q = W ws dn k y bytes ret nx ls (.long n::st) H Q:=w_con hd hx hv
set_option maxRecDepth 100000
section Rules
variable {b r q : Nat} {pre : AHeap} {s : Nat→Int32} {A : Nat→List Int32} {post : AHeap} {ls : List Slot} {st : List Value} {H R : AHeap} {Q : Option Value→AHeap→Prop} {x y v z j : Int32} {J1 J2 : Int64} {sc : List Int32} {l0 l1 l2 l3 l4 l5 l6 l7 l8 l9 l10 l11 l12 l13 l14 l15 l16 l17 : Slot} {v0 v1 v2 v3 v4 v5 v6 v7 v8 v9 v10 v11 v12 v13 v14 v15 v16 v17 : Int32} {w0 w1 w2 w3 w4 w5 w6 w7 w8 w9 w10 w11 w12 w13 w14 w15 w16 w17 : Int64} {e g : AHeap}
theorem m0_0 : M0 0 [.val (.ref r)] st H Q = M0 1 [.val (.ref r)] (.ref r::st) H Q:=w_x (dc (.aload_n 0,1)) rfl
theorem m0_1 : M0 1 ls [.ref r] H Q = M0 4 ls [] H Q:=w_obj (dc (.invokespecial 1,3)) (sl:=0) (by decide +kernel) (by decide)
theorem m0_4 : M0 4 [.val (.ref r)] st H Q = M0 5 [.val (.ref r)] (.ref r::st) H Q:=w_x (dc (.aload_n 0,1)) rfl
theorem m0_5 : M0 5 ls st H Q = M0 7 ls (.int 32::st) H Q:=w_con (dc (.bipush 32,2)) rfl (by decide)
theorem m0_12 : M0 12 [.val (.ref r)] st H Q = M0 13 [.val (.ref r)] (.ref r::st) H Q:=w_x (dc (.aload_n 0,1)) rfl
theorem m0_13 : M0 13 ls st H Q = M0 15 ls (.int 32::st) H Q:=w_con (dc (.bipush 32,2)) rfl (by decide)
theorem m0_20 : M0 20 [.val (.ref r)] st H Q = M0 21 [.val (.ref r)] (.ref r::st) H Q:=w_x (dc (.aload_n 0,1)) rfl
theorem m0_21 : M0 21 ls st H Q = M0 23 ls (.int 32::st) H Q:=w_con (dc (.bipush 32,2)) rfl (by decide)
theorem m0_28 : M0 28 [.val (.ref r)] st H Q = M0 29 [.val (.ref r)] (.ref r::st) H Q:=w_x (dc (.aload_n 0,1)) rfl
theorem m0_29 : M0 29 ls st H Q = M0 31 ls (.int 64::st) H Q:=w_con (dc (.bipush 64,2)) rfl (by decide)
theorem m0_36 : M0 36 [.val (.ref r)] st H Q = M0 37 [.val (.ref r)] (.ref r::st) H Q:=w_x (dc (.aload_n 0,1)) rfl
theorem m0_37 : M0 37 ls st H Q = M0 39 ls (.int 64::st) H Q:=w_con (dc (.bipush 64,2)) rfl (by decide)
theorem m0_44 : M0 44 [.val (.ref r)] st H Q = M0 45 [.val (.ref r)] (.ref r::st) H Q:=w_x (dc (.aload_n 0,1)) rfl
theorem m0_45 : M0 45 ls st H Q = M0 47 ls (.int 64::st) H Q:=w_con (dc (.bipush 64,2)) rfl (by decide)
theorem m0_52 : M0 52 [.val (.ref r)] st H Q = M0 53 [.val (.ref r)] (.ref r::st) H Q:=w_x (dc (.aload_n 0,1)) rfl
theorem m0_53 : M0 53 ls st H Q = M0 55 ls (.int 64::st) H Q:=w_con (dc (.bipush 64,2)) rfl (by decide)
theorem m0_60 : M0 60 [.val (.ref r)] st H Q = M0 61 [.val (.ref r)] (.ref r::st) H Q:=w_x (dc (.aload_n 0,1)) rfl
theorem m0_61 : M0 61 ls st H Q = M0 63 ls (.int 32::st) H Q:=w_con (dc (.bipush 32,2)) rfl (by decide)
theorem m0_68 : M0 68 [.val (.ref r)] st H Q = M0 69 [.val (.ref r)] (.ref r::st) H Q:=w_x (dc (.aload_n 0,1)) rfl
theorem m0_69 : M0 69 ls st H Q = M0 71 ls (.int 64::st) H Q:=w_con (dc (.bipush 64,2)) rfl (by decide)
theorem m0_76 : M0 76 [.val (.ref r)] st H Q = M0 77 [.val (.ref r)] (.ref r::st) H Q:=w_x (dc (.aload_n 0,1)) rfl
theorem m0_77 : M0 77 ls st H Q = M0 80 ls (.int 1024::st) H Q:=w_con (dc (.sipush 1024,3)) rfl (by decide)
theorem m0_85 : M0 85 [.val (.ref r)] st H Q = M0 86 [.val (.ref r)] (.ref r::st) H Q:=w_x (dc (.aload_n 0,1)) rfl
theorem m0_86 : M0 86 ls st H Q = M0 89 ls (.int 1024::st) H Q:=w_con (dc (.sipush 1024,3)) rfl (by decide)
theorem m0_94 : M0 94 [.val (.ref r)] st H Q = M0 95 [.val (.ref r)] (.ref r::st) H Q:=w_x (dc (.aload_n 0,1)) rfl
theorem m0_95 : M0 95 ls st H Q = M0 98 ls (.int 1024::st) H Q:=w_con (dc (.sipush 1024,3)) rfl (by decide)
theorem m0_103 : M0 103 [.val (.ref r)] st H Q = M0 104 [.val (.ref r)] (.ref r::st) H Q:=w_x (dc (.aload_n 0,1)) rfl
theorem m0_104 : M0 104 ls st H Q = M0 106 ls (.int 32::st) H Q:=w_con (dc (.bipush 32,2)) rfl (by decide)
theorem m0_111 : M0 111 [.val (.ref r)] st H Q = M0 112 [.val (.ref r)] (.ref r::st) H Q:=w_x (dc (.aload_n 0,1)) rfl
theorem m0_112 : M0 112 ls st H Q = M0 114 ls (.int 32::st) H Q:=w_con (dc (.bipush 32,2)) rfl (by decide)
theorem m0_119 : M0 119 [.val (.ref r)] st H Q = M0 120 [.val (.ref r)] (.ref r::st) H Q:=w_x (dc (.aload_n 0,1)) rfl
theorem m0_120 : M0 120 ls st H Q = M0 122 ls (.int 32::st) H Q:=w_con (dc (.bipush 32,2)) rfl (by decide)
theorem m0_127 : M0 127 [.val (.ref r)] st H Q = M0 128 [.val (.ref r)] (.ref r::st) H Q:=w_x (dc (.aload_n 0,1)) rfl
theorem m0_128 : M0 128 ls st H Q = M0 130 ls (.int 32::st) H Q:=w_con (dc (.bipush 32,2)) rfl (by decide)
theorem m0_135 : M0 135 [.val (.ref r)] st H Q = M0 136 [.val (.ref r)] (.ref r::st) H Q:=w_x (dc (.aload_n 0,1)) rfl
theorem m0_136 : M0 136 ls st H Q = M0 138 ls (.int 32::st) H Q:=w_con (dc (.bipush 32,2)) rfl (by decide)
theorem m0_143 : M0 143 [.val (.ref r)] st H Q = M0 144 [.val (.ref r)] (.ref r::st) H Q:=w_x (dc (.aload_n 0,1)) rfl
theorem m0_144 : M0 144 ls st H Q = M0 147 ls (.int 1024::st) H Q:=w_con (dc (.sipush 1024,3)) rfl (by decide)
theorem m0_152 : M0 152 [.val (.ref r)] st H Q = M0 153 [.val (.ref r)] (.ref r::st) H Q:=w_x (dc (.aload_n 0,1)) rfl
theorem m0_153 : M0 153 ls st H Q = M0 154 ls (.int 0::st) H Q:=w_con (dc (.iconst 0,1)) rfl (by decide)
theorem pf0_65 : pfR tables_1 y0.cls y0.name 65 = some ("RetimingEngine", 18,.int):=by decide +kernel
theorem m0_154 : M0 154 ls (.int v::.ref (b + 1)::st) (put (b + 1) e s A g) Q = M0 157 ls st (put (b + 1) e (ou s 0 v) A g) Q:=w_put (dc (.putfield 65,3)) pf0_65 put_o (Nat.succ_le_succ (Nat.zero_le _)) (by show 18 < 26; omega) rfl put_s0
theorem m0_157 : M0 157 [.val (.ref r)] st H Q = M0 158 [.val (.ref r)] (.ref r::st) H Q:=w_x (dc (.aload_n 0,1)) rfl
theorem m0_158 : M0 158 ls st H Q = M0 159 ls (.int 0::st) H Q:=w_con (dc (.iconst 0,1)) rfl (by decide)
theorem pf0_69 : pfR tables_1 y0.cls y0.name 69 = some ("RetimingEngine", 19,.int):=by decide +kernel
theorem m0_159 : M0 159 ls (.int v::.ref (b + 1)::st) (put (b + 1) e s A g) Q = M0 162 ls st (put (b + 1) e (ou s 1 v) A g) Q:=w_put (dc (.putfield 69,3)) pf0_69 put_o (Nat.succ_le_succ (Nat.zero_le _)) (by show 19 < 26; omega) rfl put_s1
theorem m0_162 : M0 162 [.val (.ref r)] st H Q = M0 163 [.val (.ref r)] (.ref r::st) H Q:=w_x (dc (.aload_n 0,1)) rfl
theorem m0_163 : M0 163 ls st H Q = M0 164 ls (.int 0::st) H Q:=w_con (dc (.iconst 0,1)) rfl (by decide)
theorem pf0_72 : pfR tables_1 y0.cls y0.name 72 = some ("RetimingEngine", 20,.int):=by decide +kernel
theorem m0_164 : M0 164 ls (.int v::.ref (b + 1)::st) (put (b + 1) e s A g) Q = M0 167 ls st (put (b + 1) e (ou s 2 v) A g) Q:=w_put (dc (.putfield 72,3)) pf0_72 put_o (Nat.succ_le_succ (Nat.zero_le _)) (by show 20 < 26; omega) rfl put_s2
theorem m0_167 : M0 167 [.val (.ref r)] st H Q = M0 168 [.val (.ref r)] (.ref r::st) H Q:=w_x (dc (.aload_n 0,1)) rfl
theorem m0_168 : M0 168 ls st H Q = M0 169 ls (.int 0::st) H Q:=w_con (dc (.iconst 0,1)) rfl (by decide)
theorem pf0_75 : pfR tables_1 y0.cls y0.name 75 = some ("RetimingEngine", 21,.int):=by decide +kernel
theorem m0_169 : M0 169 ls (.int v::.ref (b + 1)::st) (put (b + 1) e s A g) Q = M0 172 ls st (put (b + 1) e (ou s 3 v) A g) Q:=w_put (dc (.putfield 75,3)) pf0_75 put_o (Nat.succ_le_succ (Nat.zero_le _)) (by show 21 < 26; omega) rfl put_s3
theorem m0_172 : M0 172 [.val (.ref r)] st H Q = M0 173 [.val (.ref r)] (.ref r::st) H Q:=w_x (dc (.aload_n 0,1)) rfl
theorem m0_173 : M0 173 ls st H Q = M0 174 ls (.int 0::st) H Q:=w_con (dc (.iconst 0,1)) rfl (by decide)
theorem pf0_78 : pfR tables_1 y0.cls y0.name 78 = some ("RetimingEngine", 22,.boolean):=by decide +kernel
theorem m0_174 : M0 174 ls (.int v::.ref (b + 1)::st) (put (b + 1) e s A g) Q = M0 177 ls st (put (b + 1) e (ou s 4 (nar .boolean v)) A g) Q:=w_put (dc (.putfield 78,3)) pf0_78 put_o (Nat.succ_le_succ (Nat.zero_le _)) (by show 22 < 26; omega) rfl put_s4
theorem m0_177 : M0 177 ls [] H Q = Q none H:=w_vret (dc (.return_,1)) rfl
theorem m1_0 : M1 0 [l0,.val (.int v),l2,l3] st H Q = M1 1 [l0,.val (.int v),l2,l3] (.int v::st) H Q:=w_x (dc (.iload_n 1,1)) rfl
theorem m1_1 : M1 1 ls (.int x::st) H Q = if x < 0 then M1 9 ls st H Q else M1 4 ls st H Q:=w_if (dc (.ifCond .lt 8,3)) (z_lt x) rfl
theorem m1_4 : M1 4 [l0,.val (.int v),l2,l3] st H Q = M1 5 [l0,.val (.int v),l2,l3] (.int v::st) H Q:=w_x (dc (.iload_n 1,1)) rfl
theorem m1_5 : M1 5 ls st H Q = M1 6 ls (.int 3::st) H Q:=w_con (dc (.iconst 3,1)) rfl (by decide)
theorem m1_6 : M1 6 ls (.int y::.int x::st) H Q = if y < x then M1 9 ls st H Q else M1 12 ls st H Q:=w_icmpN (dc (.if_icmp .le 6,3)) (i_le x y) rfl
theorem m1_9 : M1 9 ls st H Q = M1 11 ls (.int (-2)::st) H Q:=w_con (dc (.bipush (-2),2)) rfl (by decide)
theorem m1_11 : M1 11 ls (.int z::st) H Q = Q (some (.int z)) H:=w_iret (dc (.ireturn,1)) rfl
theorem m1_12 : M1 12 [l0,l1,.val (.int v),l3] st H Q = M1 13 [l0,l1,.val (.int v),l3] (.int v::st) H Q:=w_x (dc (.iload_n 2,1)) rfl
theorem m1_13 : M1 13 ls (.int x::st) H Q = if x < 0 then M1 22 ls st H Q else M1 16 ls st H Q:=w_if (dc (.ifCond .lt 9,3)) (z_lt x) rfl
theorem m1_16 : M1 16 [l0,l1,.val (.int v),l3] st H Q = M1 17 [l0,l1,.val (.int v),l3] (.int v::st) H Q:=w_x (dc (.iload_n 2,1)) rfl
theorem m1_17 : M1 17 ls st H Q = M1 19 ls (.int 15::st) H Q:=w_con (dc (.bipush 15,2)) rfl (by decide)
theorem m1_19 : M1 19 ls (.int y::.int x::st) H Q = if y < x then M1 22 ls st H Q else M1 25 ls st H Q:=w_icmpN (dc (.if_icmp .le 6,3)) (i_le x y) rfl
theorem m1_22 : M1 22 ls st H Q = M1 24 ls (.int (-2)::st) H Q:=w_con (dc (.bipush (-2),2)) rfl (by decide)
theorem m1_24 : M1 24 ls (.int z::st) H Q = Q (some (.int z)) H:=w_iret (dc (.ireturn,1)) rfl
theorem m1_25 : M1 25 [.val (.ref r),l1,l2,l3] st H Q = M1 26 [.val (.ref r),l1,l2,l3] (.ref r::st) H Q:=w_x (dc (.aload_n 0,1)) rfl
theorem m1_26 : M1 26 ls (.ref (b + 1)::st) (put (b + 1) e s A g) Q = M1 29 ls (.int (s 0)::st) (put (b + 1) e s A g) Q:=w_get (dc (.getfield 65,3)) gf_65 put_o rfl
theorem m1_29 : M1 29 ls st H Q = M1 31 ls (.int 32::st) H Q:=w_con (dc (.bipush 32,2)) rfl (by decide)
theorem m1_31 : M1 31 ls (.int y::.int x::st) H Q = if x < y then M1 37 ls st H Q else M1 34 ls st H Q:=w_icmp (dc (.if_icmp .lt 6,3)) (i_lt x y) rfl
theorem m1_34 : M1 34 ls st H Q = M1 36 ls (.int (-3)::st) H Q:=w_con (dc (.bipush (-3),2)) rfl (by decide)
theorem m1_36 : M1 36 ls (.int z::st) H Q = Q (some (.int z)) H:=w_iret (dc (.ireturn,1)) rfl
theorem m1_37 : M1 37 [.val (.ref r),l1,l2,l3] st H Q = M1 38 [.val (.ref r),l1,l2,l3] (.ref r::st) H Q:=w_x (dc (.aload_n 0,1)) rfl
theorem m1_38 : M1 38 ls (.ref (b + 1)::st) (put (b + 1) e s A g) Q = M1 41 ls (.ref ((b + 1) + 1)::st) (put (b + 1) e s A g) Q:=w_get (dc (.getfield 7,3)) gf_7 put_o rfl
theorem m1_41 : M1 41 [.val (.ref r),l1,l2,l3] st H Q = M1 42 [.val (.ref r),l1,l2,l3] (.ref r::st) H Q:=w_x (dc (.aload_n 0,1)) rfl
theorem m1_42 : M1 42 ls (.ref (b + 1)::st) (put (b + 1) e s A g) Q = M1 45 ls (.int (s 0)::st) (put (b + 1) e s A g) Q:=w_get (dc (.getfield 65,3)) gf_65 put_o rfl
theorem m1_45 : M1 45 [l0,.val (.int v),l2,l3] st H Q = M1 46 [l0,.val (.int v),l2,l3] (.int v::st) H Q:=w_x (dc (.iload_n 1,1)) rfl
theorem m1_46  : M1 46 ls (.int v::.int j::.ref ((b + 1) + 1)::st) (put (b + 1) e s A g) Q = (inB j (A 0)∧M1 47 ls st (put (b + 1) e s (ou A 0 (setA (A 0) j v)) g) Q):=w_ist (dc (.iastore,1)) rfl put_a0 (by omega) rfl put_w0
theorem m1_47 : M1 47 [.val (.ref r),l1,l2,l3] st H Q = M1 48 [.val (.ref r),l1,l2,l3] (.ref r::st) H Q:=w_x (dc (.aload_n 0,1)) rfl
theorem m1_48 : M1 48 ls (.ref (b + 1)::st) (put (b + 1) e s A g) Q = M1 51 ls (.ref ((b + 1) + 2)::st) (put (b + 1) e s A g) Q:=w_get (dc (.getfield 13,3)) gf_13 put_o rfl
theorem m1_51 : M1 51 [.val (.ref r),l1,l2,l3] st H Q = M1 52 [.val (.ref r),l1,l2,l3] (.ref r::st) H Q:=w_x (dc (.aload_n 0,1)) rfl
theorem m1_52 : M1 52 ls (.ref (b + 1)::st) (put (b + 1) e s A g) Q = M1 55 ls (.int (s 0)::st) (put (b + 1) e s A g) Q:=w_get (dc (.getfield 65,3)) gf_65 put_o rfl
theorem m1_55 : M1 55 [l0,l1,.val (.int v),l3] st H Q = M1 56 [l0,l1,.val (.int v),l3] (.int v::st) H Q:=w_x (dc (.iload_n 2,1)) rfl
theorem m1_56  : M1 56 ls (.int v::.int j::.ref ((b + 1) + 2)::st) (put (b + 1) e s A g) Q = (inB j (A 1)∧M1 57 ls st (put (b + 1) e s (ou A 1 (setA (A 1) j v)) g) Q):=w_ist (dc (.iastore,1)) rfl put_a1 (by omega) rfl put_w1
theorem m1_57 : M1 57 [.val (.ref r),l1,l2,l3] st H Q = M1 58 [.val (.ref r),l1,l2,l3] (.ref r::st) H Q:=w_x (dc (.aload_n 0,1)) rfl
theorem m1_58 : M1 58 ls (.ref (b + 1)::st) (put (b + 1) e s A g) Q = M1 61 ls (.ref ((b + 1) + 3)::st) (put (b + 1) e s A g) Q:=w_get (dc (.getfield 16,3)) gf_16 put_o rfl
theorem m1_61 : M1 61 [.val (.ref r),l1,l2,l3] st H Q = M1 62 [.val (.ref r),l1,l2,l3] (.ref r::st) H Q:=w_x (dc (.aload_n 0,1)) rfl
theorem m1_62 : M1 62 ls (.ref (b + 1)::st) (put (b + 1) e s A g) Q = M1 65 ls (.int (s 0)::st) (put (b + 1) e s A g) Q:=w_get (dc (.getfield 65,3)) gf_65 put_o rfl
theorem m1_65 : M1 65 [l0,l1,l2,.val (.int v)] st H Q = M1 66 [l0,l1,l2,.val (.int v)] (.int v::st) H Q:=w_x (dc (.iload_n 3,1)) rfl
theorem m1_66  : M1 66 ls (.int v::.int j::.ref ((b + 1) + 3)::st) (put (b + 1) e s A g) Q = (inB j (A 2)∧M1 67 ls st (put (b + 1) e s (ou A 2 (setA (A 2) j v)) g) Q):=w_ist (dc (.iastore,1)) rfl put_a2 (by omega) rfl put_w2
theorem m1_67 : M1 67 [.val (.ref r),l1,l2,l3] st H Q = M1 68 [.val (.ref r),l1,l2,l3] (.ref r::st) H Q:=w_x (dc (.aload_n 0,1)) rfl
theorem m1_68 : M1 68 ls ((.ref r)::st) H Q = M1 69 ls ((.ref r)::(.ref r)::st) H Q:=w_x (dc (.dup,1)) rfl
theorem m1_69 : M1 69 ls (.ref (b + 1)::st) (put (b + 1) e s A g) Q = M1 72 ls (.int (s 0)::st) (put (b + 1) e s A g) Q:=w_get (dc (.getfield 65,3)) gf_65 put_o rfl
theorem m1_72 : M1 72 ls st H Q = M1 73 ls (.int 1::st) H Q:=w_con (dc (.iconst 1,1)) rfl (by decide)
theorem m1_73 : M1 73 ls (.int y::.int x::st) H Q = M1 74 ls (.int (x + y)::st) H Q:=w_x (dc (.iadd,1)) rfl
theorem pf1_65 : pfR tables_1 y1.cls y1.name 65 = some ("RetimingEngine", 18,.int):=by decide +kernel
theorem m1_74 : M1 74 ls (.int v::.ref (b + 1)::st) (put (b + 1) e s A g) Q = M1 77 ls st (put (b + 1) e (ou s 0 v) A g) Q:=w_put (dc (.putfield 65,3)) pf1_65 put_o (Nat.succ_le_succ (Nat.zero_le _)) (by show 18 < 26; omega) rfl put_s0
theorem m1_77 : M1 77 [.val (.ref r),l1,l2,l3] st H Q = M1 78 [.val (.ref r),l1,l2,l3] (.ref r::st) H Q:=w_x (dc (.aload_n 0,1)) rfl
theorem m1_78 : M1 78 ls st H Q = M1 79 ls (.int 0::st) H Q:=w_con (dc (.iconst 0,1)) rfl (by decide)
theorem pf1_78 : pfR tables_1 y1.cls y1.name 78 = some ("RetimingEngine", 22,.boolean):=by decide +kernel
theorem m1_79 : M1 79 ls (.int v::.ref (b + 1)::st) (put (b + 1) e s A g) Q = M1 82 ls st (put (b + 1) e (ou s 4 (nar .boolean v)) A g) Q:=w_put (dc (.putfield 78,3)) pf1_78 put_o (Nat.succ_le_succ (Nat.zero_le _)) (by show 22 < 26; omega) rfl put_s4
theorem m1_82 : M1 82 [.val (.ref r),l1,l2,l3] st H Q = M1 83 [.val (.ref r),l1,l2,l3] (.ref r::st) H Q:=w_x (dc (.aload_n 0,1)) rfl
theorem m1_83 : M1 83 ls st H Q = M1 84 ls (.int 0::st) H Q:=w_con (dc (.iconst 0,1)) rfl (by decide)
theorem pf1_75 : pfR tables_1 y1.cls y1.name 75 = some ("RetimingEngine", 21,.int):=by decide +kernel
theorem m1_84 : M1 84 ls (.int v::.ref (b + 1)::st) (put (b + 1) e s A g) Q = M1 87 ls st (put (b + 1) e (ou s 3 v) A g) Q:=w_put (dc (.putfield 75,3)) pf1_75 put_o (Nat.succ_le_succ (Nat.zero_le _)) (by show 21 < 26; omega) rfl put_s3
theorem m1_87 : M1 87 [.val (.ref r),l1,l2,l3] st H Q = M1 88 [.val (.ref r),l1,l2,l3] (.ref r::st) H Q:=w_x (dc (.aload_n 0,1)) rfl
theorem m1_88 : M1 88 ls (.ref (b + 1)::st) (put (b + 1) e s A g) Q = M1 91 ls (.int (s 0)::st) (put (b + 1) e s A g) Q:=w_get (dc (.getfield 65,3)) gf_65 put_o rfl
theorem m1_91 : M1 91 ls st H Q = M1 92 ls (.int 1::st) H Q:=w_con (dc (.iconst 1,1)) rfl (by decide)
theorem m1_92 : M1 92 ls (.int y::.int x::st) H Q = M1 93 ls (.int (x - y)::st) H Q:=w_x (dc (.isub,1)) rfl
theorem m1_93 : M1 93 ls (.int z::st) H Q = Q (some (.int z)) H:=w_iret (dc (.ireturn,1)) rfl
theorem m2_0 : M2 0 [l0,.val (.int v),l2,l3] st H Q = M2 1 [l0,.val (.int v),l2,l3] (.int v::st) H Q:=w_x (dc (.iload_n 1,1)) rfl
theorem m2_1 : M2 1 ls (.int x::st) H Q = if x < 0 then M2 24 ls st H Q else M2 4 ls st H Q:=w_if (dc (.ifCond .lt 23,3)) (z_lt x) rfl
theorem m2_4 : M2 4 [l0,.val (.int v),l2,l3] st H Q = M2 5 [l0,.val (.int v),l2,l3] (.int v::st) H Q:=w_x (dc (.iload_n 1,1)) rfl
theorem m2_5 : M2 5 [.val (.ref r),l1,l2,l3] st H Q = M2 6 [.val (.ref r),l1,l2,l3] (.ref r::st) H Q:=w_x (dc (.aload_n 0,1)) rfl
theorem m2_6 : M2 6 ls (.ref (b + 1)::st) (put (b + 1) e s A g) Q = M2 9 ls (.int (s 0)::st) (put (b + 1) e s A g) Q:=w_get (dc (.getfield 65,3)) gf_65 put_o rfl
theorem m2_9 : M2 9 ls (.int y::.int x::st) H Q = if x < y then M2 12 ls st H Q else M2 24 ls st H Q:=w_icmpN (dc (.if_icmp .ge 15,3)) (i_ge x y) rfl
theorem m2_12 : M2 12 [l0,l1,.val (.int v),l3] st H Q = M2 13 [l0,l1,.val (.int v),l3] (.int v::st) H Q:=w_x (dc (.iload_n 2,1)) rfl
theorem m2_13 : M2 13 ls (.int x::st) H Q = if x < 0 then M2 24 ls st H Q else M2 16 ls st H Q:=w_if (dc (.ifCond .lt 11,3)) (z_lt x) rfl
theorem m2_16 : M2 16 [l0,l1,.val (.int v),l3] st H Q = M2 17 [l0,l1,.val (.int v),l3] (.int v::st) H Q:=w_x (dc (.iload_n 2,1)) rfl
theorem m2_17 : M2 17 [.val (.ref r),l1,l2,l3] st H Q = M2 18 [.val (.ref r),l1,l2,l3] (.ref r::st) H Q:=w_x (dc (.aload_n 0,1)) rfl
theorem m2_18 : M2 18 ls (.ref (b + 1)::st) (put (b + 1) e s A g) Q = M2 21 ls (.int (s 0)::st) (put (b + 1) e s A g) Q:=w_get (dc (.getfield 65,3)) gf_65 put_o rfl
theorem m2_21 : M2 21 ls (.int y::.int x::st) H Q = if x < y then M2 27 ls st H Q else M2 24 ls st H Q:=w_icmp (dc (.if_icmp .lt 6,3)) (i_lt x y) rfl
theorem m2_24 : M2 24 ls st H Q = M2 26 ls (.int (-2)::st) H Q:=w_con (dc (.bipush (-2),2)) rfl (by decide)
theorem m2_26 : M2 26 ls (.int z::st) H Q = Q (some (.int z)) H:=w_iret (dc (.ireturn,1)) rfl
theorem m2_27 : M2 27 [l0,l1,l2,.val (.int v)] st H Q = M2 28 [l0,l1,l2,.val (.int v)] (.int v::st) H Q:=w_x (dc (.iload_n 3,1)) rfl
theorem m2_28 : M2 28 ls (.int x::st) H Q = if x < 0 then M2 37 ls st H Q else M2 31 ls st H Q:=w_if (dc (.ifCond .lt 9,3)) (z_lt x) rfl
theorem m2_31 : M2 31 [l0,l1,l2,.val (.int v)] st H Q = M2 32 [l0,l1,l2,.val (.int v)] (.int v::st) H Q:=w_x (dc (.iload_n 3,1)) rfl
theorem m2_32 : M2 32 ls st H Q = M2 34 ls (.int 7::st) H Q:=w_con (dc (.bipush 7,2)) rfl (by decide)
theorem m2_34 : M2 34 ls (.int y::.int x::st) H Q = if y < x then M2 37 ls st H Q else M2 40 ls st H Q:=w_icmpN (dc (.if_icmp .le 6,3)) (i_le x y) rfl
theorem m2_37 : M2 37 ls st H Q = M2 39 ls (.int (-2)::st) H Q:=w_con (dc (.bipush (-2),2)) rfl (by decide)
theorem m2_39 : M2 39 ls (.int z::st) H Q = Q (some (.int z)) H:=w_iret (dc (.ireturn,1)) rfl
theorem m2_40 : M2 40 [.val (.ref r),l1,l2,l3] st H Q = M2 41 [.val (.ref r),l1,l2,l3] (.ref r::st) H Q:=w_x (dc (.aload_n 0,1)) rfl
theorem m2_41 : M2 41 ls (.ref (b + 1)::st) (put (b + 1) e s A g) Q = M2 44 ls (.int (s 1)::st) (put (b + 1) e s A g) Q:=w_get (dc (.getfield 69,3)) gf_69 put_o rfl
theorem m2_44 : M2 44 ls st H Q = M2 46 ls (.int 64::st) H Q:=w_con (dc (.bipush 64,2)) rfl (by decide)
theorem m2_46 : M2 46 ls (.int y::.int x::st) H Q = if x < y then M2 52 ls st H Q else M2 49 ls st H Q:=w_icmp (dc (.if_icmp .lt 6,3)) (i_lt x y) rfl
theorem m2_49 : M2 49 ls st H Q = M2 51 ls (.int (-3)::st) H Q:=w_con (dc (.bipush (-3),2)) rfl (by decide)
theorem m2_51 : M2 51 ls (.int z::st) H Q = Q (some (.int z)) H:=w_iret (dc (.ireturn,1)) rfl
theorem m2_52 : M2 52 [.val (.ref r),l1,l2,l3] st H Q = M2 53 [.val (.ref r),l1,l2,l3] (.ref r::st) H Q:=w_x (dc (.aload_n 0,1)) rfl
theorem m2_53 : M2 53 ls (.ref (b + 1)::st) (put (b + 1) e s A g) Q = M2 56 ls (.ref ((b + 1) + 4)::st) (put (b + 1) e s A g) Q:=w_get (dc (.getfield 19,3)) gf_19 put_o rfl
theorem m2_56 : M2 56 [.val (.ref r),l1,l2,l3] st H Q = M2 57 [.val (.ref r),l1,l2,l3] (.ref r::st) H Q:=w_x (dc (.aload_n 0,1)) rfl
theorem m2_57 : M2 57 ls (.ref (b + 1)::st) (put (b + 1) e s A g) Q = M2 60 ls (.int (s 1)::st) (put (b + 1) e s A g) Q:=w_get (dc (.getfield 69,3)) gf_69 put_o rfl
theorem m2_60 : M2 60 [l0,.val (.int v),l2,l3] st H Q = M2 61 [l0,.val (.int v),l2,l3] (.int v::st) H Q:=w_x (dc (.iload_n 1,1)) rfl
theorem m2_61  : M2 61 ls (.int v::.int j::.ref ((b + 1) + 4)::st) (put (b + 1) e s A g) Q = (inB j (A 3)∧M2 62 ls st (put (b + 1) e s (ou A 3 (setA (A 3) j v)) g) Q):=w_ist (dc (.iastore,1)) rfl put_a3 (by omega) rfl put_w3
theorem m2_62 : M2 62 [.val (.ref r),l1,l2,l3] st H Q = M2 63 [.val (.ref r),l1,l2,l3] (.ref r::st) H Q:=w_x (dc (.aload_n 0,1)) rfl
theorem m2_63 : M2 63 ls (.ref (b + 1)::st) (put (b + 1) e s A g) Q = M2 66 ls (.ref ((b + 1) + 5)::st) (put (b + 1) e s A g) Q:=w_get (dc (.getfield 22,3)) gf_22 put_o rfl
theorem m2_66 : M2 66 [.val (.ref r),l1,l2,l3] st H Q = M2 67 [.val (.ref r),l1,l2,l3] (.ref r::st) H Q:=w_x (dc (.aload_n 0,1)) rfl
theorem m2_67 : M2 67 ls (.ref (b + 1)::st) (put (b + 1) e s A g) Q = M2 70 ls (.int (s 1)::st) (put (b + 1) e s A g) Q:=w_get (dc (.getfield 69,3)) gf_69 put_o rfl
theorem m2_70 : M2 70 [l0,l1,.val (.int v),l3] st H Q = M2 71 [l0,l1,.val (.int v),l3] (.int v::st) H Q:=w_x (dc (.iload_n 2,1)) rfl
theorem m2_71  : M2 71 ls (.int v::.int j::.ref ((b + 1) + 5)::st) (put (b + 1) e s A g) Q = (inB j (A 4)∧M2 72 ls st (put (b + 1) e s (ou A 4 (setA (A 4) j v)) g) Q):=w_ist (dc (.iastore,1)) rfl put_a4 (by omega) rfl put_w4
theorem m2_72 : M2 72 [.val (.ref r),l1,l2,l3] st H Q = M2 73 [.val (.ref r),l1,l2,l3] (.ref r::st) H Q:=w_x (dc (.aload_n 0,1)) rfl
theorem m2_73 : M2 73 ls (.ref (b + 1)::st) (put (b + 1) e s A g) Q = M2 76 ls (.ref ((b + 1) + 6)::st) (put (b + 1) e s A g) Q:=w_get (dc (.getfield 25,3)) gf_25 put_o rfl
theorem m2_76 : M2 76 [.val (.ref r),l1,l2,l3] st H Q = M2 77 [.val (.ref r),l1,l2,l3] (.ref r::st) H Q:=w_x (dc (.aload_n 0,1)) rfl
theorem m2_77 : M2 77 ls (.ref (b + 1)::st) (put (b + 1) e s A g) Q = M2 80 ls (.int (s 1)::st) (put (b + 1) e s A g) Q:=w_get (dc (.getfield 69,3)) gf_69 put_o rfl
theorem m2_80 : M2 80 [l0,l1,l2,.val (.int v)] st H Q = M2 81 [l0,l1,l2,.val (.int v)] (.int v::st) H Q:=w_x (dc (.iload_n 3,1)) rfl
theorem m2_81  : M2 81 ls (.int v::.int j::.ref ((b + 1) + 6)::st) (put (b + 1) e s A g) Q = (inB j (A 5)∧M2 82 ls st (put (b + 1) e s (ou A 5 (setA (A 5) j v)) g) Q):=w_ist (dc (.iastore,1)) rfl put_a5 (by omega) rfl put_w5
theorem m2_82 : M2 82 [.val (.ref r),l1,l2,l3] st H Q = M2 83 [.val (.ref r),l1,l2,l3] (.ref r::st) H Q:=w_x (dc (.aload_n 0,1)) rfl
theorem m2_83 : M2 83 ls ((.ref r)::st) H Q = M2 84 ls ((.ref r)::(.ref r)::st) H Q:=w_x (dc (.dup,1)) rfl
theorem m2_84 : M2 84 ls (.ref (b + 1)::st) (put (b + 1) e s A g) Q = M2 87 ls (.int (s 1)::st) (put (b + 1) e s A g) Q:=w_get (dc (.getfield 69,3)) gf_69 put_o rfl
theorem m2_87 : M2 87 ls st H Q = M2 88 ls (.int 1::st) H Q:=w_con (dc (.iconst 1,1)) rfl (by decide)
theorem m2_88 : M2 88 ls (.int y::.int x::st) H Q = M2 89 ls (.int (x + y)::st) H Q:=w_x (dc (.iadd,1)) rfl
theorem pf2_69 : pfR tables_1 y2.cls y2.name 69 = some ("RetimingEngine", 19,.int):=by decide +kernel
theorem m2_89 : M2 89 ls (.int v::.ref (b + 1)::st) (put (b + 1) e s A g) Q = M2 92 ls st (put (b + 1) e (ou s 1 v) A g) Q:=w_put (dc (.putfield 69,3)) pf2_69 put_o (Nat.succ_le_succ (Nat.zero_le _)) (by show 19 < 26; omega) rfl put_s1
theorem m2_92 : M2 92 [.val (.ref r),l1,l2,l3] st H Q = M2 93 [.val (.ref r),l1,l2,l3] (.ref r::st) H Q:=w_x (dc (.aload_n 0,1)) rfl
theorem m2_93 : M2 93 ls st H Q = M2 94 ls (.int 0::st) H Q:=w_con (dc (.iconst 0,1)) rfl (by decide)
theorem pf2_78 : pfR tables_1 y2.cls y2.name 78 = some ("RetimingEngine", 22,.boolean):=by decide +kernel
theorem m2_94 : M2 94 ls (.int v::.ref (b + 1)::st) (put (b + 1) e s A g) Q = M2 97 ls st (put (b + 1) e (ou s 4 (nar .boolean v)) A g) Q:=w_put (dc (.putfield 78,3)) pf2_78 put_o (Nat.succ_le_succ (Nat.zero_le _)) (by show 22 < 26; omega) rfl put_s4
theorem m2_97 : M2 97 [.val (.ref r),l1,l2,l3] st H Q = M2 98 [.val (.ref r),l1,l2,l3] (.ref r::st) H Q:=w_x (dc (.aload_n 0,1)) rfl
theorem m2_98 : M2 98 ls st H Q = M2 99 ls (.int 0::st) H Q:=w_con (dc (.iconst 0,1)) rfl (by decide)
theorem pf2_75 : pfR tables_1 y2.cls y2.name 75 = some ("RetimingEngine", 21,.int):=by decide +kernel
theorem m2_99 : M2 99 ls (.int v::.ref (b + 1)::st) (put (b + 1) e s A g) Q = M2 102 ls st (put (b + 1) e (ou s 3 v) A g) Q:=w_put (dc (.putfield 75,3)) pf2_75 put_o (Nat.succ_le_succ (Nat.zero_le _)) (by show 21 < 26; omega) rfl put_s3
theorem m2_102 : M2 102 [.val (.ref r),l1,l2,l3] st H Q = M2 103 [.val (.ref r),l1,l2,l3] (.ref r::st) H Q:=w_x (dc (.aload_n 0,1)) rfl
theorem m2_103 : M2 103 ls (.ref (b + 1)::st) (put (b + 1) e s A g) Q = M2 106 ls (.int (s 1)::st) (put (b + 1) e s A g) Q:=w_get (dc (.getfield 69,3)) gf_69 put_o rfl
theorem m2_106 : M2 106 ls st H Q = M2 107 ls (.int 1::st) H Q:=w_con (dc (.iconst 1,1)) rfl (by decide)
theorem m2_107 : M2 107 ls (.int y::.int x::st) H Q = M2 108 ls (.int (x - y)::st) H Q:=w_x (dc (.isub,1)) rfl
theorem m2_108 : M2 108 ls (.int z::st) H Q = Q (some (.int z)) H:=w_iret (dc (.ireturn,1)) rfl
theorem m3_0 : M3 0 [.val (.ref r)] st H Q = M3 1 [.val (.ref r)] (.ref r::st) H Q:=w_x (dc (.aload_n 0,1)) rfl
theorem m3_1 : M3 1 ls (.ref (b + 1)::st) (put (b + 1) e s A g) Q = M3 4 ls (.int (s 4)::st) (put (b + 1) e s A g) Q:=w_get (dc (.getfield 78,3)) gf_78 put_o rfl
theorem m3_4 : M3 4 ls (.int x::st) H Q = if x = 0 then M3 12 ls st H Q else M3 7 ls st H Q:=w_if (dc (.ifCond .eq 8,3)) (z_eq x) rfl
theorem m3_7 : M3 7 [.val (.ref r)] st H Q = M3 8 [.val (.ref r)] (.ref r::st) H Q:=w_x (dc (.aload_n 0,1)) rfl
theorem m3_8 : M3 8 ls (.ref (b + 1)::st) (put (b + 1) e s A g) Q = M3 11 ls (.int (s 5)::st) (put (b + 1) e s A g) Q:=w_get (dc (.getfield 82,3)) gf_82 put_o rfl
theorem m3_11 : M3 11 ls (.int z::st) H Q = Q (some (.int z)) H:=w_iret (dc (.ireturn,1)) rfl
theorem m3_12 : M3 12 [.val (.ref r)] st H Q = M3 13 [.val (.ref r)] (.ref r::st) H Q:=w_x (dc (.aload_n 0,1)) rfl
theorem m3_13 : M3 13 ls (.ref (b + 1)::st) (put (b + 1) e s A g) Q = M3 16 ls (.int (s 0)::st) (put (b + 1) e s A g) Q:=w_get (dc (.getfield 65,3)) gf_65 put_o rfl
theorem m3_16 : M3 16 ls (.int x::st) H Q = if x = 0 then M3 19 ls st H Q else M3 22 ls st H Q:=w_ifN (dc (.ifCond .ne 6,3)) (z_ne x) rfl
theorem m3_19 : M3 19 ls st H Q = M3 21 ls (.int (-4)::st) H Q:=w_con (dc (.bipush (-4),2)) rfl (by decide)
theorem m3_21 : M3 21 ls (.int z::st) H Q = Q (some (.int z)) H:=w_iret (dc (.ireturn,1)) rfl
theorem m3_22 : M3 22 [.val (.ref r)] st H Q = M3 23 [.val (.ref r)] (.ref r::st) H Q:=w_x (dc (.aload_n 0,1)) rfl
theorem m3_23 : M3 23 ls st H Q = M3 24 ls (.int 0::st) H Q:=w_con (dc (.iconst 0,1)) rfl (by decide)
theorem cr3_85 : vR tables_1 dn y3 85 = some (true,y4,prog_1_method_20_code,7,(some .boolean),1,17):=pR_of (cR_of (by decide +kernel) rc_4 dn_4 dn_3 (sig:=⟨[.int],some .boolean⟩) (by decide +kernel) (by decide +kernel) rfl rfl) (by decide +kernel) (by decide +kernel)
theorem m3_24 (a0 : Int32) : M3 24 ls [.int a0,.ref (b + 1)] (put (b + 1) e s A g) Q = M4 0 [.val (.ref (b + 1)),.val (.int a0),.unset,.unset,.unset,.unset,.unset] [] (put (b + 1) e s A g) (fun v H1 => M3 27 ls (v.toList ++ []) H1 Q):=w_virt (as:=[.int a0]) (rest:=[]) (a:=(b + 1)) (dc (.invokevirtual 85,3)) cr3_85 put_o rfl rfl (Nat.le_of_ble_eq_true rfl) (by show 2≤7; omega) rfl
theorem m3_27 : M3 27 ls (.int x::st) H Q = if x = 0 then M3 30 ls st H Q else M3 33 ls st H Q:=w_ifN (dc (.ifCond .ne 6,3)) (z_ne x) rfl
theorem m3_30 : M3 30 ls st H Q = M3 32 ls (.int (-5)::st) H Q:=w_con (dc (.bipush (-5),2)) rfl (by decide)
theorem m3_32 : M3 32 ls (.int z::st) H Q = Q (some (.int z)) H:=w_iret (dc (.ireturn,1)) rfl
theorem m3_33 : M3 33 [.val (.ref r)] st H Q = M3 34 [.val (.ref r)] (.ref r::st) H Q:=w_x (dc (.aload_n 0,1)) rfl
theorem m3_34 : M3 34 [.val (.ref r)] st H Q = M3 35 [.val (.ref r)] (.ref r::st) H Q:=w_x (dc (.aload_n 0,1)) rfl
theorem m3_35 : M3 35 ls st H Q = M3 36 ls (.int 0::st) H Q:=w_con (dc (.iconst 0,1)) rfl (by decide)
theorem cr3_89 : vR tables_1 dn y3 89 = some (true,y6,prog_1_method_21_code,8,(some .int),1,16):=pR_of (cR_of (by decide +kernel) rc_6 dn_6 dn_3 (sig:=⟨[.int],some .int⟩) (by decide +kernel) (by decide +kernel) rfl rfl) (by decide +kernel) (by decide +kernel)
theorem m3_36 (a0 : Int32) (u0 : Nat) : M3 36 ls [.int a0,.ref (b + 1),.ref u0] (put (b + 1) e s A g) Q = M6 0 [.val (.ref (b + 1)),.val (.int a0),.unset,.unset,.unset,.unset,.unset,.unset] [] (put (b + 1) e s A g) (fun v H1 => M3 39 ls (v.toList ++ [.ref u0]) H1 Q):=w_virt (as:=[.int a0]) (rest:=[.ref u0]) (a:=(b + 1)) (dc (.invokevirtual 89,3)) cr3_89 put_o rfl rfl (Nat.le_of_ble_eq_true rfl) (by show 2≤8; omega) rfl
theorem pf3_93 : pfR tables_1 y3.cls y3.name 93 = some ("RetimingEngine", 23,.int):=by decide +kernel
theorem m3_39 : M3 39 ls (.int v::.ref (b + 1)::st) (put (b + 1) e s A g) Q = M3 42 ls st (put (b + 1) e (ou s 6 v) A g) Q:=w_put (dc (.putfield 93,3)) pf3_93 put_o (Nat.succ_le_succ (Nat.zero_le _)) (by show 23 < 26; omega) rfl put_s6
theorem m3_42 : M3 42 [.val (.ref r)] st H Q = M3 43 [.val (.ref r)] (.ref r::st) H Q:=w_x (dc (.aload_n 0,1)) rfl
theorem cr3_96 : vR tables_1 dn y3 96 = some (true,y7,prog_1_method_23_code,3,none,0,3):=pR_of (cR_of (by decide +kernel) rc_7 dn_7 dn_3 (sig:=⟨[],none⟩) (by decide +kernel) (by decide +kernel) rfl rfl) (by decide +kernel) (by decide +kernel)
theorem m3_43 : M3 43 ls [.ref (b + 1)] (put (b + 1) e s A g) Q = M7 0 [.val (.ref (b + 1)),.unset,.unset] [] (put (b + 1) e s A g) (fun v H1 => M3 46 ls (v.toList ++ []) H1 Q):=w_virt (as:=[]) (rest:=[]) (a:=(b + 1)) (dc (.invokevirtual 96,3)) cr3_96 put_o rfl rfl (Nat.le_of_ble_eq_true rfl) (by show 1≤3; omega) rfl
theorem m3_46 : M3 46 [.val (.ref r)] st H Q = M3 47 [.val (.ref r)] (.ref r::st) H Q:=w_x (dc (.aload_n 0,1)) rfl
theorem m3_47 : M3 47 [.val (.ref r)] st H Q = M3 48 [.val (.ref r)] (.ref r::st) H Q:=w_x (dc (.aload_n 0,1)) rfl
theorem cr3_99 : vR tables_1 dn y3 99 = some (true,y10,prog_1_method_25_code,5,(some .int),0,1):=pR_of (cR_of (by decide +kernel) rc_10 dn_10 dn_3 (sig:=⟨[],some .int⟩) (by decide +kernel) (by decide +kernel) rfl rfl) (by decide +kernel) (by decide +kernel)
theorem m3_48 (u0 : Nat) : M3 48 ls [.ref (b + 1),.ref u0] (put (b + 1) e s A g) Q = M10 0 [.val (.ref (b + 1)),.unset,.unset,.unset,.unset] [] (put (b + 1) e s A g) (fun v H1 => M3 51 ls (v.toList ++ [.ref u0]) H1 Q):=w_virt (as:=[]) (rest:=[.ref u0]) (a:=(b + 1)) (dc (.invokevirtual 99,3)) cr3_99 put_o rfl rfl (Nat.le_of_ble_eq_true rfl) (by show 1≤5; omega) rfl
theorem pf3_82 : pfR tables_1 y3.cls y3.name 82 = some ("RetimingEngine", 24,.int):=by decide +kernel
theorem m3_51 : M3 51 ls (.int v::.ref (b + 1)::st) (put (b + 1) e s A g) Q = M3 54 ls st (put (b + 1) e (ou s 5 v) A g) Q:=w_put (dc (.putfield 82,3)) pf3_82 put_o (Nat.succ_le_succ (Nat.zero_le _)) (by show 24 < 26; omega) rfl put_s5
theorem m3_54 : M3 54 [.val (.ref r)] st H Q = M3 55 [.val (.ref r)] (.ref r::st) H Q:=w_x (dc (.aload_n 0,1)) rfl
theorem m3_55 : M3 55 [.val (.ref r)] st H Q = M3 56 [.val (.ref r)] (.ref r::st) H Q:=w_x (dc (.aload_n 0,1)) rfl
theorem m3_56 : M3 56 ls (.ref (b + 1)::st) (put (b + 1) e s A g) Q = M3 59 ls (.int (s 5)::st) (put (b + 1) e s A g) Q:=w_get (dc (.getfield 82,3)) gf_82 put_o rfl
theorem cr3_103 : vR tables_1 dn y3 103 = some (true,y11,prog_1_method_26_code,3,(some .boolean),1,17):=pR_of (cR_of (by decide +kernel) rc_11 dn_11 dn_3 (sig:=⟨[.int],some .boolean⟩) (by decide +kernel) (by decide +kernel) rfl rfl) (by decide +kernel) (by decide +kernel)
theorem m3_59 (a0 : Int32) : M3 59 ls [.int a0,.ref (b + 1)] (put (b + 1) e s A g) Q = M11 0 [.val (.ref (b + 1)),.val (.int a0),.unset] [] (put (b + 1) e s A g) (fun v H1 => M3 62 ls (v.toList ++ []) H1 Q):=w_virt (as:=[.int a0]) (rest:=[]) (a:=(b + 1)) (dc (.invokevirtual 103,3)) cr3_103 put_o rfl rfl (Nat.le_of_ble_eq_true rfl) (by show 2≤3; omega) rfl
theorem m3_62 : M3 62 ls ((.int v)::st) H Q = M3 63 ls st H Q:=w_x (dc (.pop,1)) rfl
theorem m3_63 : M3 63 [.val (.ref r)] st H Q = M3 64 [.val (.ref r)] (.ref r::st) H Q:=w_x (dc (.aload_n 0,1)) rfl
theorem cr3_106 : vR tables_1 dn y3 106 = some (true,y13,prog_1_method_28_code,2,none,0,36):=pR_of (cR_of (by decide +kernel) rc_13 dn_13 dn_3 (sig:=⟨[],none⟩) (by decide +kernel) (by decide +kernel) rfl rfl) (by decide +kernel) (by decide +kernel)
theorem m3_64 : M3 64 ls [.ref (b + 1)] (put (b + 1) e s A g) Q = M13 0 [.val (.ref (b + 1)),.unset] [] (put (b + 1) e s A g) (fun v H1 => M3 67 ls (v.toList ++ []) H1 Q):=w_virt (as:=[]) (rest:=[]) (a:=(b + 1)) (dc (.invokevirtual 106,3)) cr3_106 put_o rfl rfl (Nat.le_of_ble_eq_true rfl) (by show 1≤2; omega) rfl
theorem m3_67 : M3 67 [.val (.ref r)] st H Q = M3 68 [.val (.ref r)] (.ref r::st) H Q:=w_x (dc (.aload_n 0,1)) rfl
theorem m3_68 : M3 68 ls st H Q = M3 69 ls (.int 1::st) H Q:=w_con (dc (.iconst 1,1)) rfl (by decide)
theorem m3_69 (a0 : Int32) : M3 69 ls [.int a0,.ref (b + 1)] (put (b + 1) e s A g) Q = M4 0 [.val (.ref (b + 1)),.val (.int a0),.unset,.unset,.unset,.unset,.unset] [] (put (b + 1) e s A g) (fun v H1 => M3 72 ls (v.toList ++ []) H1 Q):=w_virt (as:=[.int a0]) (rest:=[]) (a:=(b + 1)) (dc (.invokevirtual 85,3)) cr3_85 put_o rfl rfl (Nat.le_of_ble_eq_true rfl) (by show 2≤7; omega) rfl
theorem m3_72 : M3 72 ls ((.int v)::st) H Q = M3 73 ls st H Q:=w_x (dc (.pop,1)) rfl
theorem m3_73 : M3 73 [.val (.ref r)] st H Q = M3 74 [.val (.ref r)] (.ref r::st) H Q:=w_x (dc (.aload_n 0,1)) rfl
theorem m3_74 : M3 74 [.val (.ref r)] st H Q = M3 75 [.val (.ref r)] (.ref r::st) H Q:=w_x (dc (.aload_n 0,1)) rfl
theorem m3_75 : M3 75 ls st H Q = M3 76 ls (.int 1::st) H Q:=w_con (dc (.iconst 1,1)) rfl (by decide)
theorem m3_76 (a0 : Int32) (u0 : Nat) : M3 76 ls [.int a0,.ref (b + 1),.ref u0] (put (b + 1) e s A g) Q = M6 0 [.val (.ref (b + 1)),.val (.int a0),.unset,.unset,.unset,.unset,.unset,.unset] [] (put (b + 1) e s A g) (fun v H1 => M3 79 ls (v.toList ++ [.ref u0]) H1 Q):=w_virt (as:=[.int a0]) (rest:=[.ref u0]) (a:=(b + 1)) (dc (.invokevirtual 89,3)) cr3_89 put_o rfl rfl (Nat.le_of_ble_eq_true rfl) (by show 2≤8; omega) rfl
theorem pf3_109 : pfR tables_1 y3.cls y3.name 109 = some ("RetimingEngine", 25,.int):=by decide +kernel
theorem m3_79 : M3 79 ls (.int v::.ref (b + 1)::st) (put (b + 1) e s A g) Q = M3 82 ls st (put (b + 1) e (ou s 7 v) A g) Q:=w_put (dc (.putfield 109,3)) pf3_109 put_o (Nat.succ_le_succ (Nat.zero_le _)) (by show 25 < 26; omega) rfl put_s7
theorem m3_82 : M3 82 [.val (.ref r)] st H Q = M3 83 [.val (.ref r)] (.ref r::st) H Q:=w_x (dc (.aload_n 0,1)) rfl
theorem m3_83 : M3 83 ls st H Q = M3 84 ls (.int 1::st) H Q:=w_con (dc (.iconst 1,1)) rfl (by decide)
theorem pf3_78 : pfR tables_1 y3.cls y3.name 78 = some ("RetimingEngine", 22,.boolean):=by decide +kernel
theorem m3_84 : M3 84 ls (.int v::.ref (b + 1)::st) (put (b + 1) e s A g) Q = M3 87 ls st (put (b + 1) e (ou s 4 (nar .boolean v)) A g) Q:=w_put (dc (.putfield 78,3)) pf3_78 put_o (Nat.succ_le_succ (Nat.zero_le _)) (by show 22 < 26; omega) rfl put_s4
theorem m3_87 : M3 87 [.val (.ref r)] st H Q = M3 88 [.val (.ref r)] (.ref r::st) H Q:=w_x (dc (.aload_n 0,1)) rfl
theorem m3_88 : M3 88 ls (.ref (b + 1)::st) (put (b + 1) e s A g) Q = M3 91 ls (.int (s 5)::st) (put (b + 1) e s A g) Q:=w_get (dc (.getfield 82,3)) gf_82 put_o rfl
theorem m3_91 : M3 91 ls (.int z::st) H Q = Q (some (.int z)) H:=w_iret (dc (.ireturn,1)) rfl
theorem m4_0 : M4 0 ls st H Q = M4 1 ls (.int 0::st) H Q:=w_con (dc (.iconst 0,1)) rfl (by decide)
theorem m4_1u : M4 1 [l0,l1,.unset,l3,l4,l5,l6] ((.int v)::st) H Q = M4 2 [l0,l1,.val (.int v),l3,l4,l5,l6] st H Q:=w_st (i:=2) (p:=isI) (dc (.istore_n 2,1)) rfl rfl rfl rfl rfl rfl
theorem m4_2 : M4 2 [l0,l1,.val (.int v),l3,l4,l5,l6] st H Q = M4 3 [l0,l1,.val (.int v),l3,l4,l5,l6] (.int v::st) H Q:=w_x (dc (.iload_n 2,1)) rfl
theorem m4_3 : M4 3 [.val (.ref r),l1,l2,l3,l4,l5,l6] st H Q = M4 4 [.val (.ref r),l1,l2,l3,l4,l5,l6] (.ref r::st) H Q:=w_x (dc (.aload_n 0,1)) rfl
theorem m4_4 : M4 4 ls (.ref (b + 1)::st) (put (b + 1) e s A g) Q = M4 7 ls (.int (s 0)::st) (put (b + 1) e s A g) Q:=w_get (dc (.getfield 65,3)) gf_65 put_o rfl
theorem m4_7 : M4 7 ls (.int y::.int x::st) H Q = if x < y then M4 10 ls st H Q else M4 23 ls st H Q:=w_icmpN (dc (.if_icmp .ge 16,3)) (i_ge x y) rfl
theorem m4_10 : M4 10 [.val (.ref r),l1,l2,l3,l4,l5,l6] st H Q = M4 11 [.val (.ref r),l1,l2,l3,l4,l5,l6] (.ref r::st) H Q:=w_x (dc (.aload_n 0,1)) rfl
theorem m4_11 : M4 11 ls (.ref (b + 1)::st) (put (b + 1) e s A g) Q = M4 14 ls (.ref ((b + 1) + 16)::st) (put (b + 1) e s A g) Q:=w_get (dc (.getfield 56,3)) gf_56 put_o rfl
theorem m4_14 : M4 14 [l0,l1,.val (.int v),l3,l4,l5,l6] st H Q = M4 15 [l0,l1,.val (.int v),l3,l4,l5,l6] (.int v::st) H Q:=w_x (dc (.iload_n 2,1)) rfl
theorem m4_15 : M4 15 ls st H Q = M4 16 ls (.int 0::st) H Q:=w_con (dc (.iconst 0,1)) rfl (by decide)
theorem m4_16  : M4 16 ls (.int v::.int j::.ref ((b + 1) + 16)::st) (put (b + 1) e s A g) Q = (inB j (A 15)∧M4 17 ls st (put (b + 1) e s (ou A 15 (setA (A 15) j v)) g) Q):=w_ist (dc (.iastore,1)) rfl put_a15 (by omega) rfl put_w15
theorem m4_17 : M4 17 [l0,l1,.val (.int v),l3,l4,l5,l6] st H Q = M4 20 [l0,l1,.val (.int (v + 1)),l3,l4,l5,l6] st H Q:=w_iinc (dc (.iinc 2 1,3)) rfl (by decide) rfl
theorem m4_20 : M4 20 ls st H Q = M4 2 ls st H Q:=w_x (dc (.goto (-18),3)) rfl
theorem m4_23 : M4 23 ls st H Q = M4 24 ls (.int 0::st) H Q:=w_con (dc (.iconst 0,1)) rfl (by decide)
theorem m4_24i : M4 24 [l0,l1,.val (.int z),l3,l4,l5,l6] ((.int v)::st) H Q = M4 25 [l0,l1,.val (.int v),l3,l4,l5,l6] st H Q:=w_st (i:=2) (p:=isI) (dc (.istore_n 2,1)) rfl rfl rfl rfl rfl rfl
theorem m4_25 : M4 25 [l0,l1,.val (.int v),l3,l4,l5,l6] st H Q = M4 26 [l0,l1,.val (.int v),l3,l4,l5,l6] (.int v::st) H Q:=w_x (dc (.iload_n 2,1)) rfl
theorem m4_26 : M4 26 [.val (.ref r),l1,l2,l3,l4,l5,l6] st H Q = M4 27 [.val (.ref r),l1,l2,l3,l4,l5,l6] (.ref r::st) H Q:=w_x (dc (.aload_n 0,1)) rfl
theorem m4_27 : M4 27 ls (.ref (b + 1)::st) (put (b + 1) e s A g) Q = M4 30 ls (.int (s 1)::st) (put (b + 1) e s A g) Q:=w_get (dc (.getfield 69,3)) gf_69 put_o rfl
theorem m4_30 : M4 30 ls (.int y::.int x::st) H Q = if x < y then M4 33 ls st H Q else M4 63 ls st H Q:=w_icmpN (dc (.if_icmp .ge 33,3)) (i_ge x y) rfl
theorem m4_33 : M4 33 [.val (.ref r),l1,l2,l3,l4,l5,l6] st H Q = M4 34 [.val (.ref r),l1,l2,l3,l4,l5,l6] (.ref r::st) H Q:=w_x (dc (.aload_n 0,1)) rfl
theorem m4_34 : M4 34 [l0,l1,.val (.int v),l3,l4,l5,l6] st H Q = M4 35 [l0,l1,.val (.int v),l3,l4,l5,l6] (.int v::st) H Q:=w_x (dc (.iload_n 2,1)) rfl
theorem m4_35 : M4 35 [l0,.val (.int v),l2,l3,l4,l5,l6] st H Q = M4 36 [l0,.val (.int v),l2,l3,l4,l5,l6] (.int v::st) H Q:=w_x (dc (.iload_n 1,1)) rfl
theorem cr4_121 : vR tables_1 dn y4 121 = some (true,y5,prog_1_method_19_code,3,(some .int),2,0):=pR_of (cR_of (by decide +kernel) rc_5 dn_5 dn_4 (sig:=⟨[.int,.int],some .int⟩) (by decide +kernel) (by decide +kernel) rfl rfl) (by decide +kernel) (by decide +kernel)
theorem m4_36 (a0 : Int32) (a1 : Int32) : M4 36 ls [.int a1,.int a0,.ref (b + 1)] (put (b + 1) e s A g) Q = M5 0 [.val (.ref (b + 1)),.val (.int a0),.val (.int a1)] [] (put (b + 1) e s A g) (fun v H1 => M4 39 ls (v.toList ++ []) H1 Q):=w_virt (as:=[.int a1,.int a0]) (rest:=[]) (a:=(b + 1)) (dc (.invokevirtual 121,3)) cr4_121 put_o rfl rfl (Nat.le_of_ble_eq_true rfl) (by show 3≤3; omega) rfl
theorem m4_39 : M4 39 ls (.int x::st) H Q = if x = 0 then M4 42 ls st H Q else M4 57 ls st H Q:=w_ifN (dc (.ifCond .ne 18,3)) (z_ne x) rfl
theorem m4_42 : M4 42 [.val (.ref r),l1,l2,l3,l4,l5,l6] st H Q = M4 43 [.val (.ref r),l1,l2,l3,l4,l5,l6] (.ref r::st) H Q:=w_x (dc (.aload_n 0,1)) rfl
theorem m4_43 : M4 43 ls (.ref (b + 1)::st) (put (b + 1) e s A g) Q = M4 46 ls (.ref ((b + 1) + 16)::st) (put (b + 1) e s A g) Q:=w_get (dc (.getfield 56,3)) gf_56 put_o rfl
theorem m4_46 : M4 46 [.val (.ref r),l1,l2,l3,l4,l5,l6] st H Q = M4 47 [.val (.ref r),l1,l2,l3,l4,l5,l6] (.ref r::st) H Q:=w_x (dc (.aload_n 0,1)) rfl
theorem m4_47 : M4 47 ls (.ref (b + 1)::st) (put (b + 1) e s A g) Q = M4 50 ls (.ref ((b + 1) + 5)::st) (put (b + 1) e s A g) Q:=w_get (dc (.getfield 22,3)) gf_22 put_o rfl
theorem m4_50 : M4 50 [l0,l1,.val (.int v),l3,l4,l5,l6] st H Q = M4 51 [l0,l1,.val (.int v),l3,l4,l5,l6] (.int v::st) H Q:=w_x (dc (.iload_n 2,1)) rfl
theorem m4_51  : M4 51 ls (.int j::.ref ((b + 1) + 5)::st) (put (b + 1) e s A g) Q = (inB j (A 4)∧M4 52 ls (.int (getA (A 4) j)::st) (put (b + 1) e s A g) Q):=w_ild (dc (.iaload,1)) rfl put_a4
theorem m4_52 : M4 52 ls (.int x::.ref q::st) H Q = M4 53 ls (.int x::.ref q::.int x::.ref q::st) H Q:=w_x (dc (.dup2,1)) rfl
theorem m4_53  : M4 53 ls (.int j::.ref ((b + 1) + 16)::st) (put (b + 1) e s A g) Q = (inB j (A 15)∧M4 54 ls (.int (getA (A 15) j)::st) (put (b + 1) e s A g) Q):=w_ild (dc (.iaload,1)) rfl put_a15
theorem m4_54 : M4 54 ls st H Q = M4 55 ls (.int 1::st) H Q:=w_con (dc (.iconst 1,1)) rfl (by decide)
theorem m4_55 : M4 55 ls (.int y::.int x::st) H Q = M4 56 ls (.int (x + y)::st) H Q:=w_x (dc (.iadd,1)) rfl
theorem m4_56  : M4 56 ls (.int v::.int j::.ref ((b + 1) + 16)::st) (put (b + 1) e s A g) Q = (inB j (A 15)∧M4 57 ls st (put (b + 1) e s (ou A 15 (setA (A 15) j v)) g) Q):=w_ist (dc (.iastore,1)) rfl put_a15 (by omega) rfl put_w15
theorem m4_57 : M4 57 [l0,l1,.val (.int v),l3,l4,l5,l6] st H Q = M4 60 [l0,l1,.val (.int (v + 1)),l3,l4,l5,l6] st H Q:=w_iinc (dc (.iinc 2 1,3)) rfl (by decide) rfl
theorem m4_60 : M4 60 ls st H Q = M4 25 ls st H Q:=w_x (dc (.goto (-35),3)) rfl
theorem m4_63 : M4 63 ls st H Q = M4 64 ls (.int 0::st) H Q:=w_con (dc (.iconst 0,1)) rfl (by decide)
theorem m4_64i : M4 64 [l0,l1,.val (.int z),l3,l4,l5,l6] ((.int v)::st) H Q = M4 65 [l0,l1,.val (.int v),l3,l4,l5,l6] st H Q:=w_st (i:=2) (p:=isI) (dc (.istore_n 2,1)) rfl rfl rfl rfl rfl rfl
theorem m4_65 : M4 65 ls st H Q = M4 66 ls (.int 0::st) H Q:=w_con (dc (.iconst 0,1)) rfl (by decide)
theorem m4_66u : M4 66 [l0,l1,l2,.unset,l4,l5,l6] ((.int v)::st) H Q = M4 67 [l0,l1,l2,.val (.int v),l4,l5,l6] st H Q:=w_st (i:=3) (p:=isI) (dc (.istore_n 3,1)) rfl rfl rfl rfl rfl rfl
theorem m4_67 : M4 67 [l0,l1,l2,.val (.int v),l4,l5,l6] st H Q = M4 68 [l0,l1,l2,.val (.int v),l4,l5,l6] (.int v::st) H Q:=w_x (dc (.iload_n 3,1)) rfl
theorem m4_68 : M4 68 [.val (.ref r),l1,l2,l3,l4,l5,l6] st H Q = M4 69 [.val (.ref r),l1,l2,l3,l4,l5,l6] (.ref r::st) H Q:=w_x (dc (.aload_n 0,1)) rfl
theorem m4_69 : M4 69 ls (.ref (b + 1)::st) (put (b + 1) e s A g) Q = M4 72 ls (.int (s 0)::st) (put (b + 1) e s A g) Q:=w_get (dc (.getfield 65,3)) gf_65 put_o rfl
theorem m4_72 : M4 72 ls (.int y::.int x::st) H Q = if x < y then M4 75 ls st H Q else M4 106 ls st H Q:=w_icmpN (dc (.if_icmp .ge 34,3)) (i_ge x y) rfl
theorem m4_75 : M4 75 [.val (.ref r),l1,l2,l3,l4,l5,l6] st H Q = M4 76 [.val (.ref r),l1,l2,l3,l4,l5,l6] (.ref r::st) H Q:=w_x (dc (.aload_n 0,1)) rfl
theorem m4_76 : M4 76 ls (.ref (b + 1)::st) (put (b + 1) e s A g) Q = M4 79 ls (.ref ((b + 1) + 16)::st) (put (b + 1) e s A g) Q:=w_get (dc (.getfield 56,3)) gf_56 put_o rfl
theorem m4_79 : M4 79 [l0,l1,l2,.val (.int v),l4,l5,l6] st H Q = M4 80 [l0,l1,l2,.val (.int v),l4,l5,l6] (.int v::st) H Q:=w_x (dc (.iload_n 3,1)) rfl
theorem m4_80  : M4 80 ls (.int j::.ref ((b + 1) + 16)::st) (put (b + 1) e s A g) Q = (inB j (A 15)∧M4 81 ls (.int (getA (A 15) j)::st) (put (b + 1) e s A g) Q):=w_ild (dc (.iaload,1)) rfl put_a15
theorem m4_81 : M4 81 ls (.int x::st) H Q = if x = 0 then M4 84 ls st H Q else M4 100 ls st H Q:=w_ifN (dc (.ifCond .ne 19,3)) (z_ne x) rfl
theorem m4_84 : M4 84 [l0,l1,.val (.int v),l3,l4,l5,l6] st H Q = M4 85 [l0,l1,.val (.int v),l3,l4,l5,l6] (.int v::st) H Q:=w_x (dc (.iload_n 2,1)) rfl
theorem m4_85 : M4 85 ls st H Q = M4 87 ls (.int 32::st) H Q:=w_con (dc (.bipush 32,2)) rfl (by decide)
theorem m4_87 : M4 87 ls (.int y::.int x::st) H Q = if x < y then M4 90 ls st H Q else M4 100 ls st H Q:=w_icmpN (dc (.if_icmp .ge 13,3)) (i_ge x y) rfl
theorem m4_90 : M4 90 [.val (.ref r),l1,l2,l3,l4,l5,l6] st H Q = M4 91 [.val (.ref r),l1,l2,l3,l4,l5,l6] (.ref r::st) H Q:=w_x (dc (.aload_n 0,1)) rfl
theorem m4_91 : M4 91 ls (.ref (b + 1)::st) (put (b + 1) e s A g) Q = M4 94 ls (.ref ((b + 1) + 15)::st) (put (b + 1) e s A g) Q:=w_get (dc (.getfield 53,3)) gf_53 put_o rfl
theorem m4_94 : M4 94 [l0,l1,.val (.int v),l3,l4,l5,l6] st H Q = M4 95 [l0,l1,.val (.int v),l3,l4,l5,l6] (.int v::st) H Q:=w_x (dc (.iload_n 2,1)) rfl
theorem m4_95 : M4 95 [l0,l1,l2,.val (.int v),l4,l5,l6] st H Q = M4 96 [l0,l1,l2,.val (.int v),l4,l5,l6] (.int v::st) H Q:=w_x (dc (.iload_n 3,1)) rfl
theorem m4_96  : M4 96 ls (.int v::.int j::.ref ((b + 1) + 15)::st) (put (b + 1) e s A g) Q = (inB j (A 14)∧M4 97 ls st (put (b + 1) e s (ou A 14 (setA (A 14) j v)) g) Q):=w_ist (dc (.iastore,1)) rfl put_a14 (by omega) rfl put_w14
theorem m4_97 : M4 97 [l0,l1,.val (.int v),l3,l4,l5,l6] st H Q = M4 100 [l0,l1,.val (.int (v + 1)),l3,l4,l5,l6] st H Q:=w_iinc (dc (.iinc 2 1,3)) rfl (by decide) rfl
theorem m4_100 : M4 100 [l0,l1,l2,.val (.int v),l4,l5,l6] st H Q = M4 103 [l0,l1,l2,.val (.int (v + 1)),l4,l5,l6] st H Q:=w_iinc (dc (.iinc 3 1,3)) rfl (by decide) rfl
theorem m4_103 : M4 103 ls st H Q = M4 67 ls st H Q:=w_x (dc (.goto (-36),3)) rfl
theorem m4_106 : M4 106 ls st H Q = M4 107 ls (.int 0::st) H Q:=w_con (dc (.iconst 0,1)) rfl (by decide)
theorem m4_107i : M4 107 [l0,l1,l2,.val (.int z),l4,l5,l6] ((.int v)::st) H Q = M4 108 [l0,l1,l2,.val (.int v),l4,l5,l6] st H Q:=w_st (i:=3) (p:=isI) (dc (.istore_n 3,1)) rfl rfl rfl rfl rfl rfl
theorem m4_108 : M4 108 [l0,l1,l2,.val (.int v),l4,l5,l6] st H Q = M4 109 [l0,l1,l2,.val (.int v),l4,l5,l6] (.int v::st) H Q:=w_x (dc (.iload_n 3,1)) rfl
theorem m4_109 : M4 109 [l0,l1,.val (.int v),l3,l4,l5,l6] st H Q = M4 110 [l0,l1,.val (.int v),l3,l4,l5,l6] (.int v::st) H Q:=w_x (dc (.iload_n 2,1)) rfl
theorem m4_110 : M4 110 ls (.int y::.int x::st) H Q = if x < y then M4 113 ls st H Q else M4 220 ls st H Q:=w_icmpN (dc (.if_icmp .ge 110,3)) (i_ge x y) rfl
theorem m4_113 : M4 113 [l0,l1,l2,.val (.int v),l4,l5,l6] st H Q = M4 114 [l0,l1,l2,.val (.int v),l4,l5,l6] (.int v::st) H Q:=w_x (dc (.iload_n 3,1)) rfl
theorem m4_114 : M4 114 ls st H Q = M4 116 ls (.int 32::st) H Q:=w_con (dc (.bipush 32,2)) rfl (by decide)
theorem m4_116 : M4 116 ls (.int y::.int x::st) H Q = if x < y then M4 119 ls st H Q else M4 220 ls st H Q:=w_icmpN (dc (.if_icmp .ge 104,3)) (i_ge x y) rfl
theorem m4_119 : M4 119 [.val (.ref r),l1,l2,l3,l4,l5,l6] st H Q = M4 120 [.val (.ref r),l1,l2,l3,l4,l5,l6] (.ref r::st) H Q:=w_x (dc (.aload_n 0,1)) rfl
theorem m4_120 : M4 120 ls (.ref (b + 1)::st) (put (b + 1) e s A g) Q = M4 123 ls (.ref ((b + 1) + 15)::st) (put (b + 1) e s A g) Q:=w_get (dc (.getfield 53,3)) gf_53 put_o rfl
theorem m4_123 : M4 123 [l0,l1,l2,.val (.int v),l4,l5,l6] st H Q = M4 124 [l0,l1,l2,.val (.int v),l4,l5,l6] (.int v::st) H Q:=w_x (dc (.iload_n 3,1)) rfl
theorem m4_124  : M4 124 ls (.int j::.ref ((b + 1) + 15)::st) (put (b + 1) e s A g) Q = (inB j (A 14)∧M4 125 ls (.int (getA (A 14) j)::st) (put (b + 1) e s A g) Q):=w_ild (dc (.iaload,1)) rfl put_a14
theorem m4_125u : M4 125 [l0,l1,l2,l3,.unset,l5,l6] ((.int v)::st) H Q = M4 127 [l0,l1,l2,l3,.val (.int v),l5,l6] st H Q:=w_st (i:=4) (p:=isI) (dc (.istore 4,2)) rfl rfl rfl rfl rfl rfl
theorem m4_125i : M4 125 [l0,l1,l2,l3,.val (.int z),l5,l6] ((.int v)::st) H Q = M4 127 [l0,l1,l2,l3,.val (.int v),l5,l6] st H Q:=w_st (i:=4) (p:=isI) (dc (.istore 4,2)) rfl rfl rfl rfl rfl rfl
theorem m4_125g (h : okS l4) : M4 125 [l0,l1,l2,l3,l4,l5,l6] ((.int v)::st) H Q = M4 127 [l0,l1,l2,l3,.val (.int v),l5,l6] st H Q:=by rcases h with rfl | ⟨z,rfl⟩ <;> first | exact m4_125u | exact m4_125i
theorem m4_127 : M4 127 ls st H Q = M4 128 ls (.int 0::st) H Q:=w_con (dc (.iconst 0,1)) rfl (by decide)
theorem m4_128u : M4 128 [l0,l1,l2,l3,l4,.unset,l6] ((.int v)::st) H Q = M4 130 [l0,l1,l2,l3,l4,.val (.int v),l6] st H Q:=w_st (i:=5) (p:=isI) (dc (.istore 5,2)) rfl rfl rfl rfl rfl rfl
theorem m4_128i : M4 128 [l0,l1,l2,l3,l4,.val (.int z),l6] ((.int v)::st) H Q = M4 130 [l0,l1,l2,l3,l4,.val (.int v),l6] st H Q:=w_st (i:=5) (p:=isI) (dc (.istore 5,2)) rfl rfl rfl rfl rfl rfl
theorem m4_128g (h : okS l5) : M4 128 [l0,l1,l2,l3,l4,l5,l6] ((.int v)::st) H Q = M4 130 [l0,l1,l2,l3,l4,.val (.int v),l6] st H Q:=by rcases h with rfl | ⟨z,rfl⟩ <;> first | exact m4_128u | exact m4_128i
theorem m4_130 : M4 130 [l0,l1,l2,l3,l4,.val (.int v),l6] st H Q = M4 132 [l0,l1,l2,l3,l4,.val (.int v),l6] (.int v::st) H Q:=w_x (dc (.iload 5,2)) rfl
theorem m4_132 : M4 132 [.val (.ref r),l1,l2,l3,l4,l5,l6] st H Q = M4 133 [.val (.ref r),l1,l2,l3,l4,l5,l6] (.ref r::st) H Q:=w_x (dc (.aload_n 0,1)) rfl
theorem m4_133 : M4 133 ls (.ref (b + 1)::st) (put (b + 1) e s A g) Q = M4 136 ls (.int (s 1)::st) (put (b + 1) e s A g) Q:=w_get (dc (.getfield 69,3)) gf_69 put_o rfl
theorem m4_136 : M4 136 ls (.int y::.int x::st) H Q = if x < y then M4 139 ls st H Q else M4 214 ls st H Q:=w_icmpN (dc (.if_icmp .ge 78,3)) (i_ge x y) rfl
theorem m4_139 : M4 139 [.val (.ref r),l1,l2,l3,l4,l5,l6] st H Q = M4 140 [.val (.ref r),l1,l2,l3,l4,l5,l6] (.ref r::st) H Q:=w_x (dc (.aload_n 0,1)) rfl
theorem m4_140 : M4 140 ls (.ref (b + 1)::st) (put (b + 1) e s A g) Q = M4 143 ls (.ref ((b + 1) + 4)::st) (put (b + 1) e s A g) Q:=w_get (dc (.getfield 19,3)) gf_19 put_o rfl
theorem m4_143 : M4 143 [l0,l1,l2,l3,l4,.val (.int v),l6] st H Q = M4 145 [l0,l1,l2,l3,l4,.val (.int v),l6] (.int v::st) H Q:=w_x (dc (.iload 5,2)) rfl
theorem m4_145  : M4 145 ls (.int j::.ref ((b + 1) + 4)::st) (put (b + 1) e s A g) Q = (inB j (A 3)∧M4 146 ls (.int (getA (A 3) j)::st) (put (b + 1) e s A g) Q):=w_ild (dc (.iaload,1)) rfl put_a3
theorem m4_146 : M4 146 [l0,l1,l2,l3,.val (.int v),l5,l6] st H Q = M4 148 [l0,l1,l2,l3,.val (.int v),l5,l6] (.int v::st) H Q:=w_x (dc (.iload 4,2)) rfl
theorem m4_148 : M4 148 ls (.int y::.int x::st) H Q = if x = y then M4 151 ls st H Q else M4 208 ls st H Q:=w_icmpN (dc (.if_icmp .ne 60,3)) (i_ne x y) rfl
theorem m4_151 : M4 151 [.val (.ref r),l1,l2,l3,l4,l5,l6] st H Q = M4 152 [.val (.ref r),l1,l2,l3,l4,l5,l6] (.ref r::st) H Q:=w_x (dc (.aload_n 0,1)) rfl
theorem m4_152 : M4 152 [l0,l1,l2,l3,l4,.val (.int v),l6] st H Q = M4 154 [l0,l1,l2,l3,l4,.val (.int v),l6] (.int v::st) H Q:=w_x (dc (.iload 5,2)) rfl
theorem m4_154 : M4 154 [l0,.val (.int v),l2,l3,l4,l5,l6] st H Q = M4 155 [l0,.val (.int v),l2,l3,l4,l5,l6] (.int v::st) H Q:=w_x (dc (.iload_n 1,1)) rfl
theorem m4_155 (a0 : Int32) (a1 : Int32) : M4 155 ls [.int a1,.int a0,.ref (b + 1)] (put (b + 1) e s A g) Q = M5 0 [.val (.ref (b + 1)),.val (.int a0),.val (.int a1)] [] (put (b + 1) e s A g) (fun v H1 => M4 158 ls (v.toList ++ []) H1 Q):=w_virt (as:=[.int a1,.int a0]) (rest:=[]) (a:=(b + 1)) (dc (.invokevirtual 121,3)) cr4_121 put_o rfl rfl (Nat.le_of_ble_eq_true rfl) (by show 3≤3; omega) rfl
theorem m4_158 : M4 158 ls (.int x::st) H Q = if x = 0 then M4 161 ls st H Q else M4 208 ls st H Q:=w_ifN (dc (.ifCond .ne 50,3)) (z_ne x) rfl
theorem m4_161 : M4 161 [.val (.ref r),l1,l2,l3,l4,l5,l6] st H Q = M4 162 [.val (.ref r),l1,l2,l3,l4,l5,l6] (.ref r::st) H Q:=w_x (dc (.aload_n 0,1)) rfl
theorem m4_162 : M4 162 ls (.ref (b + 1)::st) (put (b + 1) e s A g) Q = M4 165 ls (.ref ((b + 1) + 5)::st) (put (b + 1) e s A g) Q:=w_get (dc (.getfield 22,3)) gf_22 put_o rfl
theorem m4_165 : M4 165 [l0,l1,l2,l3,l4,.val (.int v),l6] st H Q = M4 167 [l0,l1,l2,l3,l4,.val (.int v),l6] (.int v::st) H Q:=w_x (dc (.iload 5,2)) rfl
theorem m4_167  : M4 167 ls (.int j::.ref ((b + 1) + 5)::st) (put (b + 1) e s A g) Q = (inB j (A 4)∧M4 168 ls (.int (getA (A 4) j)::st) (put (b + 1) e s A g) Q):=w_ild (dc (.iaload,1)) rfl put_a4
theorem m4_168u : M4 168 [l0,l1,l2,l3,l4,l5,.unset] ((.int v)::st) H Q = M4 170 [l0,l1,l2,l3,l4,l5,.val (.int v)] st H Q:=w_st (i:=6) (p:=isI) (dc (.istore 6,2)) rfl rfl rfl rfl rfl rfl
theorem m4_168i : M4 168 [l0,l1,l2,l3,l4,l5,.val (.int z)] ((.int v)::st) H Q = M4 170 [l0,l1,l2,l3,l4,l5,.val (.int v)] st H Q:=w_st (i:=6) (p:=isI) (dc (.istore 6,2)) rfl rfl rfl rfl rfl rfl
theorem m4_168g (h : okS l6) : M4 168 [l0,l1,l2,l3,l4,l5,l6] ((.int v)::st) H Q = M4 170 [l0,l1,l2,l3,l4,l5,.val (.int v)] st H Q:=by rcases h with rfl | ⟨z,rfl⟩ <;> first | exact m4_168u | exact m4_168i
theorem m4_170 : M4 170 [.val (.ref r),l1,l2,l3,l4,l5,l6] st H Q = M4 171 [.val (.ref r),l1,l2,l3,l4,l5,l6] (.ref r::st) H Q:=w_x (dc (.aload_n 0,1)) rfl
theorem m4_171 : M4 171 ls (.ref (b + 1)::st) (put (b + 1) e s A g) Q = M4 174 ls (.ref ((b + 1) + 16)::st) (put (b + 1) e s A g) Q:=w_get (dc (.getfield 56,3)) gf_56 put_o rfl
theorem m4_174 : M4 174 [l0,l1,l2,l3,l4,l5,.val (.int v)] st H Q = M4 176 [l0,l1,l2,l3,l4,l5,.val (.int v)] (.int v::st) H Q:=w_x (dc (.iload 6,2)) rfl
theorem m4_176 : M4 176 ls (.int x::.ref q::st) H Q = M4 177 ls (.int x::.ref q::.int x::.ref q::st) H Q:=w_x (dc (.dup2,1)) rfl
theorem m4_177  : M4 177 ls (.int j::.ref ((b + 1) + 16)::st) (put (b + 1) e s A g) Q = (inB j (A 15)∧M4 178 ls (.int (getA (A 15) j)::st) (put (b + 1) e s A g) Q):=w_ild (dc (.iaload,1)) rfl put_a15
theorem m4_178 : M4 178 ls st H Q = M4 179 ls (.int 1::st) H Q:=w_con (dc (.iconst 1,1)) rfl (by decide)
theorem m4_179 : M4 179 ls (.int y::.int x::st) H Q = M4 180 ls (.int (x - y)::st) H Q:=w_x (dc (.isub,1)) rfl
theorem m4_180  : M4 180 ls (.int v::.int j::.ref ((b + 1) + 16)::st) (put (b + 1) e s A g) Q = (inB j (A 15)∧M4 181 ls st (put (b + 1) e s (ou A 15 (setA (A 15) j v)) g) Q):=w_ist (dc (.iastore,1)) rfl put_a15 (by omega) rfl put_w15
theorem m4_181 : M4 181 [.val (.ref r),l1,l2,l3,l4,l5,l6] st H Q = M4 182 [.val (.ref r),l1,l2,l3,l4,l5,l6] (.ref r::st) H Q:=w_x (dc (.aload_n 0,1)) rfl
theorem m4_182 : M4 182 ls (.ref (b + 1)::st) (put (b + 1) e s A g) Q = M4 185 ls (.ref ((b + 1) + 16)::st) (put (b + 1) e s A g) Q:=w_get (dc (.getfield 56,3)) gf_56 put_o rfl
theorem m4_185 : M4 185 [l0,l1,l2,l3,l4,l5,.val (.int v)] st H Q = M4 187 [l0,l1,l2,l3,l4,l5,.val (.int v)] (.int v::st) H Q:=w_x (dc (.iload 6,2)) rfl
theorem m4_187  : M4 187 ls (.int j::.ref ((b + 1) + 16)::st) (put (b + 1) e s A g) Q = (inB j (A 15)∧M4 188 ls (.int (getA (A 15) j)::st) (put (b + 1) e s A g) Q):=w_ild (dc (.iaload,1)) rfl put_a15
theorem m4_188 : M4 188 ls (.int x::st) H Q = if x = 0 then M4 191 ls st H Q else M4 208 ls st H Q:=w_ifN (dc (.ifCond .ne 20,3)) (z_ne x) rfl
theorem m4_191 : M4 191 [l0,l1,.val (.int v),l3,l4,l5,l6] st H Q = M4 192 [l0,l1,.val (.int v),l3,l4,l5,l6] (.int v::st) H Q:=w_x (dc (.iload_n 2,1)) rfl
theorem m4_192 : M4 192 ls st H Q = M4 194 ls (.int 32::st) H Q:=w_con (dc (.bipush 32,2)) rfl (by decide)
theorem m4_194 : M4 194 ls (.int y::.int x::st) H Q = if x < y then M4 197 ls st H Q else M4 208 ls st H Q:=w_icmpN (dc (.if_icmp .ge 14,3)) (i_ge x y) rfl
theorem m4_197 : M4 197 [.val (.ref r),l1,l2,l3,l4,l5,l6] st H Q = M4 198 [.val (.ref r),l1,l2,l3,l4,l5,l6] (.ref r::st) H Q:=w_x (dc (.aload_n 0,1)) rfl
theorem m4_198 : M4 198 ls (.ref (b + 1)::st) (put (b + 1) e s A g) Q = M4 201 ls (.ref ((b + 1) + 15)::st) (put (b + 1) e s A g) Q:=w_get (dc (.getfield 53,3)) gf_53 put_o rfl
theorem m4_201 : M4 201 [l0,l1,.val (.int v),l3,l4,l5,l6] st H Q = M4 202 [l0,l1,.val (.int v),l3,l4,l5,l6] (.int v::st) H Q:=w_x (dc (.iload_n 2,1)) rfl
theorem m4_202 : M4 202 [l0,l1,l2,l3,l4,l5,.val (.int v)] st H Q = M4 204 [l0,l1,l2,l3,l4,l5,.val (.int v)] (.int v::st) H Q:=w_x (dc (.iload 6,2)) rfl
theorem m4_204  : M4 204 ls (.int v::.int j::.ref ((b + 1) + 15)::st) (put (b + 1) e s A g) Q = (inB j (A 14)∧M4 205 ls st (put (b + 1) e s (ou A 14 (setA (A 14) j v)) g) Q):=w_ist (dc (.iastore,1)) rfl put_a14 (by omega) rfl put_w14
theorem m4_205 : M4 205 [l0,l1,.val (.int v),l3,l4,l5,l6] st H Q = M4 208 [l0,l1,.val (.int (v + 1)),l3,l4,l5,l6] st H Q:=w_iinc (dc (.iinc 2 1,3)) rfl (by decide) rfl
theorem m4_208 : M4 208 [l0,l1,l2,l3,l4,.val (.int v),l6] st H Q = M4 211 [l0,l1,l2,l3,l4,.val (.int (v + 1)),l6] st H Q:=w_iinc (dc (.iinc 5 1,3)) rfl (by decide) rfl
theorem m4_211 : M4 211 ls st H Q = M4 130 ls st H Q:=w_x (dc (.goto (-81),3)) rfl
theorem m4_214 : M4 214 [l0,l1,l2,.val (.int v),l4,l5,l6] st H Q = M4 217 [l0,l1,l2,.val (.int (v + 1)),l4,l5,l6] st H Q:=w_iinc (dc (.iinc 3 1,3)) rfl (by decide) rfl
theorem m4_217 : M4 217 ls st H Q = M4 108 ls st H Q:=w_x (dc (.goto (-109),3)) rfl
theorem m4_220 : M4 220 [l0,l1,.val (.int v),l3,l4,l5,l6] st H Q = M4 221 [l0,l1,.val (.int v),l3,l4,l5,l6] (.int v::st) H Q:=w_x (dc (.iload_n 2,1)) rfl
theorem m4_221 : M4 221 [.val (.ref r),l1,l2,l3,l4,l5,l6] st H Q = M4 222 [.val (.ref r),l1,l2,l3,l4,l5,l6] (.ref r::st) H Q:=w_x (dc (.aload_n 0,1)) rfl
theorem m4_222 : M4 222 ls (.ref (b + 1)::st) (put (b + 1) e s A g) Q = M4 225 ls (.int (s 0)::st) (put (b + 1) e s A g) Q:=w_get (dc (.getfield 65,3)) gf_65 put_o rfl
theorem m4_225 : M4 225 ls (.int y::.int x::st) H Q = if x = y then M4 228 ls st H Q else M4 232 ls st H Q:=w_icmpN (dc (.if_icmp .ne 7,3)) (i_ne x y) rfl
theorem m4_228 : M4 228 ls st H Q = M4 229 ls (.int 1::st) H Q:=w_con (dc (.iconst 1,1)) rfl (by decide)
theorem m4_229 : M4 229 ls st H Q = M4 233 ls st H Q:=w_x (dc (.goto 4,3)) rfl
theorem m4_232 : M4 232 ls st H Q = M4 233 ls (.int 0::st) H Q:=w_con (dc (.iconst 0,1)) rfl (by decide)
theorem m4_233 : M4 233 ls (.int z::st) H Q = Q (some (.int (nar .boolean z))) H:=w_iretN (dc (.ireturn,1)) rfl (by simp)
theorem m5_0 : M5 0 [l0,l1,.val (.int v)] st H Q = M5 1 [l0,l1,.val (.int v)] (.int v::st) H Q:=w_x (dc (.iload_n 2,1)) rfl
theorem m5_1 : M5 1 ls st H Q = M5 2 ls (.int 1::st) H Q:=w_con (dc (.iconst 1,1)) rfl (by decide)
theorem m5_2 : M5 2 ls (.int y::.int x::st) H Q = if x = y then M5 5 ls st H Q else M5 12 ls st H Q:=w_icmpN (dc (.if_icmp .ne 10,3)) (i_ne x y) rfl
theorem m5_5 : M5 5 [.val (.ref r),l1,l2] st H Q = M5 6 [.val (.ref r),l1,l2] (.ref r::st) H Q:=w_x (dc (.aload_n 0,1)) rfl
theorem m5_6 : M5 6 ls (.ref (b + 1)::st) (put (b + 1) e s A g) Q = M5 9 ls (.ref ((b + 1) + 7)::st) (put (b + 1) e s A g) Q:=w_get (dc (.getfield 28,3)) gf_28 put_o rfl
theorem m5_9 : M5 9 [l0,.val (.int v),l2] st H Q = M5 10 [l0,.val (.int v),l2] (.int v::st) H Q:=w_x (dc (.iload_n 1,1)) rfl
theorem m5_10  : M5 10 ls (.int j::.ref ((b + 1) + 7)::st) (put (b + 1) e s A g) Q = (inB j (A 6)∧M5 11 ls (.int (getA (A 6) j)::st) (put (b + 1) e s A g) Q):=w_ild (dc (.iaload,1)) rfl put_a6
theorem m5_11 : M5 11 ls (.int z::st) H Q = Q (some (.int z)) H:=w_iret (dc (.ireturn,1)) rfl
theorem m5_12 : M5 12 [.val (.ref r),l1,l2] st H Q = M5 13 [.val (.ref r),l1,l2] (.ref r::st) H Q:=w_x (dc (.aload_n 0,1)) rfl
theorem m5_13 : M5 13 ls (.ref (b + 1)::st) (put (b + 1) e s A g) Q = M5 16 ls (.ref ((b + 1) + 6)::st) (put (b + 1) e s A g) Q:=w_get (dc (.getfield 25,3)) gf_25 put_o rfl
theorem m5_16 : M5 16 [l0,.val (.int v),l2] st H Q = M5 17 [l0,.val (.int v),l2] (.int v::st) H Q:=w_x (dc (.iload_n 1,1)) rfl
theorem m5_17  : M5 17 ls (.int j::.ref ((b + 1) + 6)::st) (put (b + 1) e s A g) Q = (inB j (A 5)∧M5 18 ls (.int (getA (A 5) j)::st) (put (b + 1) e s A g) Q):=w_ild (dc (.iaload,1)) rfl put_a5
theorem m5_18 : M5 18 ls (.int z::st) H Q = Q (some (.int z)) H:=w_iret (dc (.ireturn,1)) rfl
theorem m6_0 : M6 0 ls st H Q = M6 1 ls (.int 0::st) H Q:=w_con (dc (.iconst 0,1)) rfl (by decide)
theorem m6_1u : M6 1 [l0,l1,.unset,l3,l4,l5,l6,l7] ((.int v)::st) H Q = M6 2 [l0,l1,.val (.int v),l3,l4,l5,l6,l7] st H Q:=w_st (i:=2) (p:=isI) (dc (.istore_n 2,1)) rfl rfl rfl rfl rfl rfl
theorem m6_2 : M6 2 ls st H Q = M6 3 ls (.int 0::st) H Q:=w_con (dc (.iconst 0,1)) rfl (by decide)
theorem m6_3u : M6 3 [l0,l1,l2,.unset,l4,l5,l6,l7] ((.int v)::st) H Q = M6 4 [l0,l1,l2,.val (.int v),l4,l5,l6,l7] st H Q:=w_st (i:=3) (p:=isI) (dc (.istore_n 3,1)) rfl rfl rfl rfl rfl rfl
theorem m6_4 : M6 4 [l0,l1,l2,.val (.int v),l4,l5,l6,l7] st H Q = M6 5 [l0,l1,l2,.val (.int v),l4,l5,l6,l7] (.int v::st) H Q:=w_x (dc (.iload_n 3,1)) rfl
theorem m6_5 : M6 5 [.val (.ref r),l1,l2,l3,l4,l5,l6,l7] st H Q = M6 6 [.val (.ref r),l1,l2,l3,l4,l5,l6,l7] (.ref r::st) H Q:=w_x (dc (.aload_n 0,1)) rfl
theorem m6_6 : M6 6 ls (.ref (b + 1)::st) (put (b + 1) e s A g) Q = M6 9 ls (.int (s 0)::st) (put (b + 1) e s A g) Q:=w_get (dc (.getfield 65,3)) gf_65 put_o rfl
theorem m6_9 : M6 9 ls (.int y::.int x::st) H Q = if x < y then M6 12 ls st H Q else M6 126 ls st H Q:=w_icmpN (dc (.if_icmp .ge 117,3)) (i_ge x y) rfl
theorem m6_12 : M6 12 [.val (.ref r),l1,l2,l3,l4,l5,l6,l7] st H Q = M6 13 [.val (.ref r),l1,l2,l3,l4,l5,l6,l7] (.ref r::st) H Q:=w_x (dc (.aload_n 0,1)) rfl
theorem m6_13 : M6 13 ls (.ref (b + 1)::st) (put (b + 1) e s A g) Q = M6 16 ls (.ref ((b + 1) + 15)::st) (put (b + 1) e s A g) Q:=w_get (dc (.getfield 53,3)) gf_53 put_o rfl
theorem m6_16 : M6 16 [l0,l1,l2,.val (.int v),l4,l5,l6,l7] st H Q = M6 17 [l0,l1,l2,.val (.int v),l4,l5,l6,l7] (.int v::st) H Q:=w_x (dc (.iload_n 3,1)) rfl
theorem m6_17  : M6 17 ls (.int j::.ref ((b + 1) + 15)::st) (put (b + 1) e s A g) Q = (inB j (A 14)∧M6 18 ls (.int (getA (A 14) j)::st) (put (b + 1) e s A g) Q):=w_ild (dc (.iaload,1)) rfl put_a14
theorem m6_18u : M6 18 [l0,l1,l2,l3,.unset,l5,l6,l7] ((.int v)::st) H Q = M6 20 [l0,l1,l2,l3,.val (.int v),l5,l6,l7] st H Q:=w_st (i:=4) (p:=isI) (dc (.istore 4,2)) rfl rfl rfl rfl rfl rfl
theorem m6_18i : M6 18 [l0,l1,l2,l3,.val (.int z),l5,l6,l7] ((.int v)::st) H Q = M6 20 [l0,l1,l2,l3,.val (.int v),l5,l6,l7] st H Q:=w_st (i:=4) (p:=isI) (dc (.istore 4,2)) rfl rfl rfl rfl rfl rfl
theorem m6_18g (h : okS l4) : M6 18 [l0,l1,l2,l3,l4,l5,l6,l7] ((.int v)::st) H Q = M6 20 [l0,l1,l2,l3,.val (.int v),l5,l6,l7] st H Q:=by rcases h with rfl | ⟨z,rfl⟩ <;> first | exact m6_18u | exact m6_18i
theorem m6_20 : M6 20 [.val (.ref r),l1,l2,l3,l4,l5,l6,l7] st H Q = M6 21 [.val (.ref r),l1,l2,l3,l4,l5,l6,l7] (.ref r::st) H Q:=w_x (dc (.aload_n 0,1)) rfl
theorem m6_21 : M6 21 ls (.ref (b + 1)::st) (put (b + 1) e s A g) Q = M6 24 ls (.ref ((b + 1) + 2)::st) (put (b + 1) e s A g) Q:=w_get (dc (.getfield 13,3)) gf_13 put_o rfl
theorem m6_24 : M6 24 [l0,l1,l2,l3,.val (.int v),l5,l6,l7] st H Q = M6 26 [l0,l1,l2,l3,.val (.int v),l5,l6,l7] (.int v::st) H Q:=w_x (dc (.iload 4,2)) rfl
theorem m6_26  : M6 26 ls (.int j::.ref ((b + 1) + 2)::st) (put (b + 1) e s A g) Q = (inB j (A 1)∧M6 27 ls (.int (getA (A 1) j)::st) (put (b + 1) e s A g) Q):=w_ild (dc (.iaload,1)) rfl put_a1
theorem m6_27u : M6 27 [l0,l1,l2,l3,l4,.unset,l6,l7] ((.int v)::st) H Q = M6 29 [l0,l1,l2,l3,l4,.val (.int v),l6,l7] st H Q:=w_st (i:=5) (p:=isI) (dc (.istore 5,2)) rfl rfl rfl rfl rfl rfl
theorem m6_27i : M6 27 [l0,l1,l2,l3,l4,.val (.int z),l6,l7] ((.int v)::st) H Q = M6 29 [l0,l1,l2,l3,l4,.val (.int v),l6,l7] st H Q:=w_st (i:=5) (p:=isI) (dc (.istore 5,2)) rfl rfl rfl rfl rfl rfl
theorem m6_27g (h : okS l5) : M6 27 [l0,l1,l2,l3,l4,l5,l6,l7] ((.int v)::st) H Q = M6 29 [l0,l1,l2,l3,l4,.val (.int v),l6,l7] st H Q:=by rcases h with rfl | ⟨z,rfl⟩ <;> first | exact m6_27u | exact m6_27i
theorem m6_29 : M6 29 ls st H Q = M6 30 ls (.int 0::st) H Q:=w_con (dc (.iconst 0,1)) rfl (by decide)
theorem m6_30u : M6 30 [l0,l1,l2,l3,l4,l5,.unset,l7] ((.int v)::st) H Q = M6 32 [l0,l1,l2,l3,l4,l5,.val (.int v),l7] st H Q:=w_st (i:=6) (p:=isI) (dc (.istore 6,2)) rfl rfl rfl rfl rfl rfl
theorem m6_30i : M6 30 [l0,l1,l2,l3,l4,l5,.val (.int z),l7] ((.int v)::st) H Q = M6 32 [l0,l1,l2,l3,l4,l5,.val (.int v),l7] st H Q:=w_st (i:=6) (p:=isI) (dc (.istore 6,2)) rfl rfl rfl rfl rfl rfl
theorem m6_30g (h : okS l6) : M6 30 [l0,l1,l2,l3,l4,l5,l6,l7] ((.int v)::st) H Q = M6 32 [l0,l1,l2,l3,l4,l5,.val (.int v),l7] st H Q:=by rcases h with rfl | ⟨z,rfl⟩ <;> first | exact m6_30u | exact m6_30i
theorem m6_32 : M6 32 [l0,l1,l2,l3,l4,l5,.val (.int v),l7] st H Q = M6 34 [l0,l1,l2,l3,l4,l5,.val (.int v),l7] (.int v::st) H Q:=w_x (dc (.iload 6,2)) rfl
theorem m6_34 : M6 34 [.val (.ref r),l1,l2,l3,l4,l5,l6,l7] st H Q = M6 35 [.val (.ref r),l1,l2,l3,l4,l5,l6,l7] (.ref r::st) H Q:=w_x (dc (.aload_n 0,1)) rfl
theorem m6_35 : M6 35 ls (.ref (b + 1)::st) (put (b + 1) e s A g) Q = M6 38 ls (.int (s 1)::st) (put (b + 1) e s A g) Q:=w_get (dc (.getfield 69,3)) gf_69 put_o rfl
theorem m6_38 : M6 38 ls (.int y::.int x::st) H Q = if x < y then M6 41 ls st H Q else M6 102 ls st H Q:=w_icmpN (dc (.if_icmp .ge 64,3)) (i_ge x y) rfl
theorem m6_41 : M6 41 [.val (.ref r),l1,l2,l3,l4,l5,l6,l7] st H Q = M6 42 [.val (.ref r),l1,l2,l3,l4,l5,l6,l7] (.ref r::st) H Q:=w_x (dc (.aload_n 0,1)) rfl
theorem m6_42 : M6 42 ls (.ref (b + 1)::st) (put (b + 1) e s A g) Q = M6 45 ls (.ref ((b + 1) + 5)::st) (put (b + 1) e s A g) Q:=w_get (dc (.getfield 22,3)) gf_22 put_o rfl
theorem m6_45 : M6 45 [l0,l1,l2,l3,l4,l5,.val (.int v),l7] st H Q = M6 47 [l0,l1,l2,l3,l4,l5,.val (.int v),l7] (.int v::st) H Q:=w_x (dc (.iload 6,2)) rfl
theorem m6_47  : M6 47 ls (.int j::.ref ((b + 1) + 5)::st) (put (b + 1) e s A g) Q = (inB j (A 4)∧M6 48 ls (.int (getA (A 4) j)::st) (put (b + 1) e s A g) Q):=w_ild (dc (.iaload,1)) rfl put_a4
theorem m6_48 : M6 48 [l0,l1,l2,l3,.val (.int v),l5,l6,l7] st H Q = M6 50 [l0,l1,l2,l3,.val (.int v),l5,l6,l7] (.int v::st) H Q:=w_x (dc (.iload 4,2)) rfl
theorem m6_50 : M6 50 ls (.int y::.int x::st) H Q = if x = y then M6 53 ls st H Q else M6 96 ls st H Q:=w_icmpN (dc (.if_icmp .ne 46,3)) (i_ne x y) rfl
theorem m6_53 : M6 53 [.val (.ref r),l1,l2,l3,l4,l5,l6,l7] st H Q = M6 54 [.val (.ref r),l1,l2,l3,l4,l5,l6,l7] (.ref r::st) H Q:=w_x (dc (.aload_n 0,1)) rfl
theorem m6_54 : M6 54 [l0,l1,l2,l3,l4,l5,.val (.int v),l7] st H Q = M6 56 [l0,l1,l2,l3,l4,l5,.val (.int v),l7] (.int v::st) H Q:=w_x (dc (.iload 6,2)) rfl
theorem m6_56 : M6 56 [l0,.val (.int v),l2,l3,l4,l5,l6,l7] st H Q = M6 57 [l0,.val (.int v),l2,l3,l4,l5,l6,l7] (.int v::st) H Q:=w_x (dc (.iload_n 1,1)) rfl
theorem cr6_121 : vR tables_1 dn y6 121 = some (true,y5,prog_1_method_19_code,3,(some .int),2,0):=pR_of (cR_of (by decide +kernel) rc_5 dn_5 dn_6 (sig:=⟨[.int,.int],some .int⟩) (by decide +kernel) (by decide +kernel) rfl rfl) (by decide +kernel) (by decide +kernel)
theorem m6_57 (a0 : Int32) (a1 : Int32) : M6 57 ls [.int a1,.int a0,.ref (b + 1)] (put (b + 1) e s A g) Q = M5 0 [.val (.ref (b + 1)),.val (.int a0),.val (.int a1)] [] (put (b + 1) e s A g) (fun v H1 => M6 60 ls (v.toList ++ []) H1 Q):=w_virt (as:=[.int a1,.int a0]) (rest:=[]) (a:=(b + 1)) (dc (.invokevirtual 121,3)) cr6_121 put_o rfl rfl (Nat.le_of_ble_eq_true rfl) (by show 3≤3; omega) rfl
theorem m6_60 : M6 60 ls (.int x::st) H Q = if x = 0 then M6 63 ls st H Q else M6 96 ls st H Q:=w_ifN (dc (.ifCond .ne 36,3)) (z_ne x) rfl
theorem m6_63 : M6 63 [.val (.ref r),l1,l2,l3,l4,l5,l6,l7] st H Q = M6 64 [.val (.ref r),l1,l2,l3,l4,l5,l6,l7] (.ref r::st) H Q:=w_x (dc (.aload_n 0,1)) rfl
theorem m6_64 : M6 64 ls (.ref (b + 1)::st) (put (b + 1) e s A g) Q = M6 67 ls (.ref ((b + 1) + 17)::st) (put (b + 1) e s A g) Q:=w_get (dc (.getfield 59,3)) gf_59 put_o rfl
theorem m6_67 : M6 67 [.val (.ref r),l1,l2,l3,l4,l5,l6,l7] st H Q = M6 68 [.val (.ref r),l1,l2,l3,l4,l5,l6,l7] (.ref r::st) H Q:=w_x (dc (.aload_n 0,1)) rfl
theorem m6_68 : M6 68 ls (.ref (b + 1)::st) (put (b + 1) e s A g) Q = M6 71 ls (.ref ((b + 1) + 4)::st) (put (b + 1) e s A g) Q:=w_get (dc (.getfield 19,3)) gf_19 put_o rfl
theorem m6_71 : M6 71 [l0,l1,l2,l3,l4,l5,.val (.int v),l7] st H Q = M6 73 [l0,l1,l2,l3,l4,l5,.val (.int v),l7] (.int v::st) H Q:=w_x (dc (.iload 6,2)) rfl
theorem m6_73  : M6 73 ls (.int j::.ref ((b + 1) + 4)::st) (put (b + 1) e s A g) Q = (inB j (A 3)∧M6 74 ls (.int (getA (A 3) j)::st) (put (b + 1) e s A g) Q):=w_ild (dc (.iaload,1)) rfl put_a3
theorem m6_74  : M6 74 ls (.int j::.ref ((b + 1) + 17)::st) (put (b + 1) e s A g) Q = (inB j (A 16)∧M6 75 ls (.int (getA (A 16) j)::st) (put (b + 1) e s A g) Q):=w_ild (dc (.iaload,1)) rfl put_a16
theorem m6_75 : M6 75 [.val (.ref r),l1,l2,l3,l4,l5,l6,l7] st H Q = M6 76 [.val (.ref r),l1,l2,l3,l4,l5,l6,l7] (.ref r::st) H Q:=w_x (dc (.aload_n 0,1)) rfl
theorem m6_76 : M6 76 ls (.ref (b + 1)::st) (put (b + 1) e s A g) Q = M6 79 ls (.ref ((b + 1) + 2)::st) (put (b + 1) e s A g) Q:=w_get (dc (.getfield 13,3)) gf_13 put_o rfl
theorem m6_79 : M6 79 [l0,l1,l2,l3,.val (.int v),l5,l6,l7] st H Q = M6 81 [l0,l1,l2,l3,.val (.int v),l5,l6,l7] (.int v::st) H Q:=w_x (dc (.iload 4,2)) rfl
theorem m6_81  : M6 81 ls (.int j::.ref ((b + 1) + 2)::st) (put (b + 1) e s A g) Q = (inB j (A 1)∧M6 82 ls (.int (getA (A 1) j)::st) (put (b + 1) e s A g) Q):=w_ild (dc (.iaload,1)) rfl put_a1
theorem m6_82 : M6 82 ls (.int y::.int x::st) H Q = M6 83 ls (.int (x + y)::st) H Q:=w_x (dc (.iadd,1)) rfl
theorem m6_83u : M6 83 [l0,l1,l2,l3,l4,l5,l6,.unset] ((.int v)::st) H Q = M6 85 [l0,l1,l2,l3,l4,l5,l6,.val (.int v)] st H Q:=w_st (i:=7) (p:=isI) (dc (.istore 7,2)) rfl rfl rfl rfl rfl rfl
theorem m6_83i : M6 83 [l0,l1,l2,l3,l4,l5,l6,.val (.int z)] ((.int v)::st) H Q = M6 85 [l0,l1,l2,l3,l4,l5,l6,.val (.int v)] st H Q:=w_st (i:=7) (p:=isI) (dc (.istore 7,2)) rfl rfl rfl rfl rfl rfl
theorem m6_83g (h : okS l7) : M6 83 [l0,l1,l2,l3,l4,l5,l6,l7] ((.int v)::st) H Q = M6 85 [l0,l1,l2,l3,l4,l5,l6,.val (.int v)] st H Q:=by rcases h with rfl | ⟨z,rfl⟩ <;> first | exact m6_83u | exact m6_83i
theorem m6_85 : M6 85 [l0,l1,l2,l3,l4,l5,l6,.val (.int v)] st H Q = M6 87 [l0,l1,l2,l3,l4,l5,l6,.val (.int v)] (.int v::st) H Q:=w_x (dc (.iload 7,2)) rfl
theorem m6_87 : M6 87 [l0,l1,l2,l3,l4,.val (.int v),l6,l7] st H Q = M6 89 [l0,l1,l2,l3,l4,.val (.int v),l6,l7] (.int v::st) H Q:=w_x (dc (.iload 5,2)) rfl
theorem m6_89 : M6 89 ls (.int y::.int x::st) H Q = if y < x then M6 92 ls st H Q else M6 96 ls st H Q:=w_icmpN (dc (.if_icmp .le 7,3)) (i_le x y) rfl
theorem m6_92 : M6 92 [l0,l1,l2,l3,l4,l5,l6,.val (.int v)] st H Q = M6 94 [l0,l1,l2,l3,l4,l5,l6,.val (.int v)] (.int v::st) H Q:=w_x (dc (.iload 7,2)) rfl
theorem m6_94i : M6 94 [l0,l1,l2,l3,l4,.val (.int z),l6,l7] ((.int v)::st) H Q = M6 96 [l0,l1,l2,l3,l4,.val (.int v),l6,l7] st H Q:=w_st (i:=5) (p:=isI) (dc (.istore 5,2)) rfl rfl rfl rfl rfl rfl
theorem m6_96 : M6 96 [l0,l1,l2,l3,l4,l5,.val (.int v),l7] st H Q = M6 99 [l0,l1,l2,l3,l4,l5,.val (.int (v + 1)),l7] st H Q:=w_iinc (dc (.iinc 6 1,3)) rfl (by decide) rfl
theorem m6_99 : M6 99 ls st H Q = M6 32 ls st H Q:=w_x (dc (.goto (-67),3)) rfl
theorem m6_102 : M6 102 [.val (.ref r),l1,l2,l3,l4,l5,l6,l7] st H Q = M6 103 [.val (.ref r),l1,l2,l3,l4,l5,l6,l7] (.ref r::st) H Q:=w_x (dc (.aload_n 0,1)) rfl
theorem m6_103 : M6 103 ls (.ref (b + 1)::st) (put (b + 1) e s A g) Q = M6 106 ls (.ref ((b + 1) + 17)::st) (put (b + 1) e s A g) Q:=w_get (dc (.getfield 59,3)) gf_59 put_o rfl
theorem m6_106 : M6 106 [l0,l1,l2,l3,.val (.int v),l5,l6,l7] st H Q = M6 108 [l0,l1,l2,l3,.val (.int v),l5,l6,l7] (.int v::st) H Q:=w_x (dc (.iload 4,2)) rfl
theorem m6_108 : M6 108 [l0,l1,l2,l3,l4,.val (.int v),l6,l7] st H Q = M6 110 [l0,l1,l2,l3,l4,.val (.int v),l6,l7] (.int v::st) H Q:=w_x (dc (.iload 5,2)) rfl
theorem m6_110  : M6 110 ls (.int v::.int j::.ref ((b + 1) + 17)::st) (put (b + 1) e s A g) Q = (inB j (A 16)∧M6 111 ls st (put (b + 1) e s (ou A 16 (setA (A 16) j v)) g) Q):=w_ist (dc (.iastore,1)) rfl put_a16 (by omega) rfl put_w16
theorem m6_111 : M6 111 [l0,l1,l2,l3,l4,.val (.int v),l6,l7] st H Q = M6 113 [l0,l1,l2,l3,l4,.val (.int v),l6,l7] (.int v::st) H Q:=w_x (dc (.iload 5,2)) rfl
theorem m6_113 : M6 113 [l0,l1,.val (.int v),l3,l4,l5,l6,l7] st H Q = M6 114 [l0,l1,.val (.int v),l3,l4,l5,l6,l7] (.int v::st) H Q:=w_x (dc (.iload_n 2,1)) rfl
theorem m6_114 : M6 114 ls (.int y::.int x::st) H Q = if y < x then M6 117 ls st H Q else M6 120 ls st H Q:=w_icmpN (dc (.if_icmp .le 6,3)) (i_le x y) rfl
theorem m6_117 : M6 117 [l0,l1,l2,l3,l4,.val (.int v),l6,l7] st H Q = M6 119 [l0,l1,l2,l3,l4,.val (.int v),l6,l7] (.int v::st) H Q:=w_x (dc (.iload 5,2)) rfl
theorem m6_119i : M6 119 [l0,l1,.val (.int z),l3,l4,l5,l6,l7] ((.int v)::st) H Q = M6 120 [l0,l1,.val (.int v),l3,l4,l5,l6,l7] st H Q:=w_st (i:=2) (p:=isI) (dc (.istore_n 2,1)) rfl rfl rfl rfl rfl rfl
theorem m6_120 : M6 120 [l0,l1,l2,.val (.int v),l4,l5,l6,l7] st H Q = M6 123 [l0,l1,l2,.val (.int (v + 1)),l4,l5,l6,l7] st H Q:=w_iinc (dc (.iinc 3 1,3)) rfl (by decide) rfl
theorem m6_123 : M6 123 ls st H Q = M6 4 ls st H Q:=w_x (dc (.goto (-119),3)) rfl
theorem m6_126 : M6 126 [l0,l1,.val (.int v),l3,l4,l5,l6,l7] st H Q = M6 127 [l0,l1,.val (.int v),l3,l4,l5,l6,l7] (.int v::st) H Q:=w_x (dc (.iload_n 2,1)) rfl
theorem m6_127 : M6 127 ls (.int z::st) H Q = Q (some (.int z)) H:=w_iret (dc (.ireturn,1)) rfl
theorem m7_0 : M7 0 ls st H Q = M7 1 ls (.int 0::st) H Q:=w_con (dc (.iconst 0,1)) rfl (by decide)
theorem m7_1u : M7 1 [l0,.unset,l2] ((.int v)::st) H Q = M7 2 [l0,.val (.int v),l2] st H Q:=w_st (i:=1) (p:=isI) (dc (.istore_n 1,1)) rfl rfl rfl rfl rfl rfl
theorem m7_2 : M7 2 [l0,.val (.int v),l2] st H Q = M7 3 [l0,.val (.int v),l2] (.int v::st) H Q:=w_x (dc (.iload_n 1,1)) rfl
theorem m7_3 : M7 3 [.val (.ref r),l1,l2] st H Q = M7 4 [.val (.ref r),l1,l2] (.ref r::st) H Q:=w_x (dc (.aload_n 0,1)) rfl
theorem m7_4 : M7 4 ls (.ref (b + 1)::st) (put (b + 1) e s A g) Q = M7 7 ls (.int (s 0)::st) (put (b + 1) e s A g) Q:=w_get (dc (.getfield 65,3)) gf_65 put_o rfl
theorem m7_7 : M7 7 ls (.int y::.int x::st) H Q = if x < y then M7 10 ls st H Q else M7 44 ls st H Q:=w_icmpN (dc (.if_icmp .ge 37,3)) (i_ge x y) rfl
theorem m7_10 : M7 10 ls st H Q = M7 11 ls (.int 0::st) H Q:=w_con (dc (.iconst 0,1)) rfl (by decide)
theorem m7_11u : M7 11 [l0,l1,.unset] ((.int v)::st) H Q = M7 12 [l0,l1,.val (.int v)] st H Q:=w_st (i:=2) (p:=isI) (dc (.istore_n 2,1)) rfl rfl rfl rfl rfl rfl
theorem m7_11i : M7 11 [l0,l1,.val (.int z)] ((.int v)::st) H Q = M7 12 [l0,l1,.val (.int v)] st H Q:=w_st (i:=2) (p:=isI) (dc (.istore_n 2,1)) rfl rfl rfl rfl rfl rfl
theorem m7_11g (h : okS l2) : M7 11 [l0,l1,l2] ((.int v)::st) H Q = M7 12 [l0,l1,.val (.int v)] st H Q:=by rcases h with rfl | ⟨z,rfl⟩ <;> first | exact m7_11u | exact m7_11i
theorem m7_12 : M7 12 [l0,l1,.val (.int v)] st H Q = M7 13 [l0,l1,.val (.int v)] (.int v::st) H Q:=w_x (dc (.iload_n 2,1)) rfl
theorem m7_13 : M7 13 [.val (.ref r),l1,l2] st H Q = M7 14 [.val (.ref r),l1,l2] (.ref r::st) H Q:=w_x (dc (.aload_n 0,1)) rfl
theorem m7_14 : M7 14 ls (.ref (b + 1)::st) (put (b + 1) e s A g) Q = M7 17 ls (.int (s 0)::st) (put (b + 1) e s A g) Q:=w_get (dc (.getfield 65,3)) gf_65 put_o rfl
theorem m7_17 : M7 17 ls (.int y::.int x::st) H Q = if x < y then M7 20 ls st H Q else M7 38 ls st H Q:=w_icmpN (dc (.if_icmp .ge 21,3)) (i_ge x y) rfl
theorem m7_20 : M7 20 [.val (.ref r),l1,l2] st H Q = M7 21 [.val (.ref r),l1,l2] (.ref r::st) H Q:=w_x (dc (.aload_n 0,1)) rfl
theorem m7_21 : M7 21 ls (.ref (b + 1)::st) (put (b + 1) e s A g) Q = M7 24 ls (.ref ((b + 1) + 12)::st) (put (b + 1) e s A g) Q:=w_get (dc (.getfield 43,3)) gf_43 put_o rfl
theorem m7_24 : M7 24 [l0,.val (.int v),l2] st H Q = M7 25 [l0,.val (.int v),l2] (.int v::st) H Q:=w_x (dc (.iload_n 1,1)) rfl
theorem m7_25 : M7 25 ls st H Q = M7 27 ls (.int 32::st) H Q:=w_con (dc (.bipush 32,2)) rfl (by decide)
theorem m7_27 : M7 27 ls (.int y::.int x::st) H Q = M7 28 ls (.int (x * y)::st) H Q:=w_x (dc (.imul,1)) rfl
theorem m7_28 : M7 28 [l0,l1,.val (.int v)] st H Q = M7 29 [l0,l1,.val (.int v)] (.int v::st) H Q:=w_x (dc (.iload_n 2,1)) rfl
theorem m7_29 : M7 29 ls (.int y::.int x::st) H Q = M7 30 ls (.int (x + y)::st) H Q:=w_x (dc (.iadd,1)) rfl
theorem m7_30 : M7 30 ls st H Q = M7 31 ls (.int 0::st) H Q:=w_con (dc (.iconst 0,1)) rfl (by decide)
theorem m7_31  : M7 31 ls (.int v::.int j::.ref ((b + 1) + 12)::st) (put (b + 1) e s A g) Q = (inB j (A 11)∧M7 32 ls st (put (b + 1) e s (ou A 11 (setA (A 11) j (nar .boolean v))) g) Q):=w_ist (dc (.bastore,1)) rfl put_a11 (by omega) rfl put_w11
theorem m7_32 : M7 32 [l0,l1,.val (.int v)] st H Q = M7 35 [l0,l1,.val (.int (v + 1))] st H Q:=w_iinc (dc (.iinc 2 1,3)) rfl (by decide) rfl
theorem m7_35 : M7 35 ls st H Q = M7 12 ls st H Q:=w_x (dc (.goto (-23),3)) rfl
theorem m7_38 : M7 38 [l0,.val (.int v),l2] st H Q = M7 41 [l0,.val (.int (v + 1)),l2] st H Q:=w_iinc (dc (.iinc 1 1,3)) rfl (by decide) rfl
theorem m7_41 : M7 41 ls st H Q = M7 2 ls st H Q:=w_x (dc (.goto (-39),3)) rfl
theorem m7_44 : M7 44 ls st H Q = M7 45 ls (.int 0::st) H Q:=w_con (dc (.iconst 0,1)) rfl (by decide)
theorem m7_45i : M7 45 [l0,.val (.int z),l2] ((.int v)::st) H Q = M7 46 [l0,.val (.int v),l2] st H Q:=w_st (i:=1) (p:=isI) (dc (.istore_n 1,1)) rfl rfl rfl rfl rfl rfl
theorem m7_46 : M7 46 [l0,.val (.int v),l2] st H Q = M7 47 [l0,.val (.int v),l2] (.int v::st) H Q:=w_x (dc (.iload_n 1,1)) rfl
theorem m7_47 : M7 47 [.val (.ref r),l1,l2] st H Q = M7 48 [.val (.ref r),l1,l2] (.ref r::st) H Q:=w_x (dc (.aload_n 0,1)) rfl
theorem m7_48 : M7 48 ls (.ref (b + 1)::st) (put (b + 1) e s A g) Q = M7 51 ls (.int (s 0)::st) (put (b + 1) e s A g) Q:=w_get (dc (.getfield 65,3)) gf_65 put_o rfl
theorem m7_51 : M7 51 ls (.int y::.int x::st) H Q = if x < y then M7 54 ls st H Q else M7 88 ls st H Q:=w_icmpN (dc (.if_icmp .ge 37,3)) (i_ge x y) rfl
theorem m7_54 : M7 54 [l0,.val (.int v),l2] st H Q = M7 55 [l0,.val (.int v),l2] (.int v::st) H Q:=w_x (dc (.iload_n 1,1)) rfl
theorem m7_55 : M7 55 ls st H Q = M7 57 ls (.int 32::st) H Q:=w_con (dc (.bipush 32,2)) rfl (by decide)
theorem m7_57 : M7 57 ls (.int y::.int x::st) H Q = M7 58 ls (.int (x * y)::st) H Q:=w_x (dc (.imul,1)) rfl
theorem m7_58 : M7 58 [l0,.val (.int v),l2] st H Q = M7 59 [l0,.val (.int v),l2] (.int v::st) H Q:=w_x (dc (.iload_n 1,1)) rfl
theorem m7_59 : M7 59 ls (.int y::.int x::st) H Q = M7 60 ls (.int (x + y)::st) H Q:=w_x (dc (.iadd,1)) rfl
theorem m7_60u : M7 60 [l0,l1,.unset] ((.int v)::st) H Q = M7 61 [l0,l1,.val (.int v)] st H Q:=w_st (i:=2) (p:=isI) (dc (.istore_n 2,1)) rfl rfl rfl rfl rfl rfl
theorem m7_60i : M7 60 [l0,l1,.val (.int z)] ((.int v)::st) H Q = M7 61 [l0,l1,.val (.int v)] st H Q:=w_st (i:=2) (p:=isI) (dc (.istore_n 2,1)) rfl rfl rfl rfl rfl rfl
theorem m7_60g (h : okS l2) : M7 60 [l0,l1,l2] ((.int v)::st) H Q = M7 61 [l0,l1,.val (.int v)] st H Q:=by rcases h with rfl | ⟨z,rfl⟩ <;> first | exact m7_60u | exact m7_60i
theorem m7_61 : M7 61 [.val (.ref r),l1,l2] st H Q = M7 62 [.val (.ref r),l1,l2] (.ref r::st) H Q:=w_x (dc (.aload_n 0,1)) rfl
theorem m7_62 : M7 62 ls (.ref (b + 1)::st) (put (b + 1) e s A g) Q = M7 65 ls (.ref ((b + 1) + 12)::st) (put (b + 1) e s A g) Q:=w_get (dc (.getfield 43,3)) gf_43 put_o rfl
theorem m7_65 : M7 65 [l0,l1,.val (.int v)] st H Q = M7 66 [l0,l1,.val (.int v)] (.int v::st) H Q:=w_x (dc (.iload_n 2,1)) rfl
theorem m7_66 : M7 66 ls st H Q = M7 67 ls (.int 1::st) H Q:=w_con (dc (.iconst 1,1)) rfl (by decide)
theorem m7_67  : M7 67 ls (.int v::.int j::.ref ((b + 1) + 12)::st) (put (b + 1) e s A g) Q = (inB j (A 11)∧M7 68 ls st (put (b + 1) e s (ou A 11 (setA (A 11) j (nar .boolean v))) g) Q):=w_ist (dc (.bastore,1)) rfl put_a11 (by omega) rfl put_w11
theorem m7_68 : M7 68 [.val (.ref r),l1,l2] st H Q = M7 69 [.val (.ref r),l1,l2] (.ref r::st) H Q:=w_x (dc (.aload_n 0,1)) rfl
theorem m7_69 : M7 69 ls (.ref (b + 1)::st) (put (b + 1) e s A g) Q = M7 72 ls (.ref ((b + 1) + 10)::st) (put (b + 1) e s A g) Q:=w_get (dc (.getfield 37,3)) gf_37 put_o rfl
theorem m7_72 : M7 72 [l0,l1,.val (.int v)] st H Q = M7 73 [l0,l1,.val (.int v)] (.int v::st) H Q:=w_x (dc (.iload_n 2,1)) rfl
theorem m7_73 : M7 73 ls st H Q = M7 74 ls (.int 0::st) H Q:=w_con (dc (.iconst 0,1)) rfl (by decide)
theorem m7_74  : M7 74 ls (.int v::.int j::.ref ((b + 1) + 10)::st) (put (b + 1) e s A g) Q = (inB j (A 9)∧M7 75 ls st (put (b + 1) e s (ou A 9 (setA (A 9) j v)) g) Q):=w_ist (dc (.iastore,1)) rfl put_a9 (by omega) rfl put_w9
theorem m7_75 : M7 75 [.val (.ref r),l1,l2] st H Q = M7 76 [.val (.ref r),l1,l2] (.ref r::st) H Q:=w_x (dc (.aload_n 0,1)) rfl
theorem m7_76 : M7 76 ls (.ref (b + 1)::st) (put (b + 1) e s A g) Q = M7 79 ls (.ref ((b + 1) + 11)::st) (put (b + 1) e s A g) Q:=w_get (dc (.getfield 40,3)) gf_40 put_o rfl
theorem m7_79 : M7 79 [l0,l1,.val (.int v)] st H Q = M7 80 [l0,l1,.val (.int v)] (.int v::st) H Q:=w_x (dc (.iload_n 2,1)) rfl
theorem m7_80 : M7 80 ls st H Q = M7 81 ls (.int 0::st) H Q:=w_con (dc (.iconst 0,1)) rfl (by decide)
theorem m7_81  : M7 81 ls (.int v::.int j::.ref ((b + 1) + 11)::st) (put (b + 1) e s A g) Q = (inB j (A 10)∧M7 82 ls st (put (b + 1) e s (ou A 10 (setA (A 10) j v)) g) Q):=w_ist (dc (.iastore,1)) rfl put_a10 (by omega) rfl put_w10
theorem m7_82 : M7 82 [l0,.val (.int v),l2] st H Q = M7 85 [l0,.val (.int (v + 1)),l2] st H Q:=w_iinc (dc (.iinc 1 1,3)) rfl (by decide) rfl
theorem m7_85 : M7 85 ls st H Q = M7 46 ls st H Q:=w_x (dc (.goto (-39),3)) rfl
theorem m7_88 : M7 88 ls st H Q = M7 89 ls (.int 0::st) H Q:=w_con (dc (.iconst 0,1)) rfl (by decide)
theorem m7_89i : M7 89 [l0,.val (.int z),l2] ((.int v)::st) H Q = M7 90 [l0,.val (.int v),l2] st H Q:=w_st (i:=1) (p:=isI) (dc (.istore_n 1,1)) rfl rfl rfl rfl rfl rfl
theorem m7_90 : M7 90 [l0,.val (.int v),l2] st H Q = M7 91 [l0,.val (.int v),l2] (.int v::st) H Q:=w_x (dc (.iload_n 1,1)) rfl
theorem m7_91 : M7 91 [.val (.ref r),l1,l2] st H Q = M7 92 [.val (.ref r),l1,l2] (.ref r::st) H Q:=w_x (dc (.aload_n 0,1)) rfl
theorem m7_92 : M7 92 ls (.ref (b + 1)::st) (put (b + 1) e s A g) Q = M7 95 ls (.int (s 1)::st) (put (b + 1) e s A g) Q:=w_get (dc (.getfield 69,3)) gf_69 put_o rfl
theorem m7_95 : M7 95 ls (.int y::.int x::st) H Q = if x < y then M7 98 ls st H Q else M7 141 ls st H Q:=w_icmpN (dc (.if_icmp .ge 46,3)) (i_ge x y) rfl
theorem m7_98 : M7 98 [.val (.ref r),l1,l2] st H Q = M7 99 [.val (.ref r),l1,l2] (.ref r::st) H Q:=w_x (dc (.aload_n 0,1)) rfl
theorem m7_99 : M7 99 [.val (.ref r),l1,l2] st H Q = M7 100 [.val (.ref r),l1,l2] (.ref r::st) H Q:=w_x (dc (.aload_n 0,1)) rfl
theorem m7_100 : M7 100 ls (.ref (b + 1)::st) (put (b + 1) e s A g) Q = M7 103 ls (.ref ((b + 1) + 4)::st) (put (b + 1) e s A g) Q:=w_get (dc (.getfield 19,3)) gf_19 put_o rfl
theorem m7_103 : M7 103 [l0,.val (.int v),l2] st H Q = M7 104 [l0,.val (.int v),l2] (.int v::st) H Q:=w_x (dc (.iload_n 1,1)) rfl
theorem m7_104  : M7 104 ls (.int j::.ref ((b + 1) + 4)::st) (put (b + 1) e s A g) Q = (inB j (A 3)∧M7 105 ls (.int (getA (A 3) j)::st) (put (b + 1) e s A g) Q):=w_ild (dc (.iaload,1)) rfl put_a3
theorem m7_105 : M7 105 ls st H Q = M7 107 ls (.int 32::st) H Q:=w_con (dc (.bipush 32,2)) rfl (by decide)
theorem m7_107 : M7 107 ls (.int y::.int x::st) H Q = M7 108 ls (.int (x * y)::st) H Q:=w_x (dc (.imul,1)) rfl
theorem m7_108 : M7 108 [.val (.ref r),l1,l2] st H Q = M7 109 [.val (.ref r),l1,l2] (.ref r::st) H Q:=w_x (dc (.aload_n 0,1)) rfl
theorem m7_109 : M7 109 ls (.ref (b + 1)::st) (put (b + 1) e s A g) Q = M7 112 ls (.ref ((b + 1) + 5)::st) (put (b + 1) e s A g) Q:=w_get (dc (.getfield 22,3)) gf_22 put_o rfl
theorem m7_112 : M7 112 [l0,.val (.int v),l2] st H Q = M7 113 [l0,.val (.int v),l2] (.int v::st) H Q:=w_x (dc (.iload_n 1,1)) rfl
theorem m7_113  : M7 113 ls (.int j::.ref ((b + 1) + 5)::st) (put (b + 1) e s A g) Q = (inB j (A 4)∧M7 114 ls (.int (getA (A 4) j)::st) (put (b + 1) e s A g) Q):=w_ild (dc (.iaload,1)) rfl put_a4
theorem m7_114 : M7 114 ls (.int y::.int x::st) H Q = M7 115 ls (.int (x + y)::st) H Q:=w_x (dc (.iadd,1)) rfl
theorem m7_115 : M7 115 [.val (.ref r),l1,l2] st H Q = M7 116 [.val (.ref r),l1,l2] (.ref r::st) H Q:=w_x (dc (.aload_n 0,1)) rfl
theorem m7_116 : M7 116 ls (.ref (b + 1)::st) (put (b + 1) e s A g) Q = M7 119 ls (.ref ((b + 1) + 6)::st) (put (b + 1) e s A g) Q:=w_get (dc (.getfield 25,3)) gf_25 put_o rfl
theorem m7_119 : M7 119 [l0,.val (.int v),l2] st H Q = M7 120 [l0,.val (.int v),l2] (.int v::st) H Q:=w_x (dc (.iload_n 1,1)) rfl
theorem m7_120  : M7 120 ls (.int j::.ref ((b + 1) + 6)::st) (put (b + 1) e s A g) Q = (inB j (A 5)∧M7 121 ls (.int (getA (A 5) j)::st) (put (b + 1) e s A g) Q):=w_ild (dc (.iaload,1)) rfl put_a5
theorem m7_121 : M7 121 [.val (.ref r),l1,l2] st H Q = M7 122 [.val (.ref r),l1,l2] (.ref r::st) H Q:=w_x (dc (.aload_n 0,1)) rfl
theorem m7_122 : M7 122 ls (.ref (b + 1)::st) (put (b + 1) e s A g) Q = M7 125 ls (.ref ((b + 1) + 2)::st) (put (b + 1) e s A g) Q:=w_get (dc (.getfield 13,3)) gf_13 put_o rfl
theorem m7_125 : M7 125 [.val (.ref r),l1,l2] st H Q = M7 126 [.val (.ref r),l1,l2] (.ref r::st) H Q:=w_x (dc (.aload_n 0,1)) rfl
theorem m7_126 : M7 126 ls (.ref (b + 1)::st) (put (b + 1) e s A g) Q = M7 129 ls (.ref ((b + 1) + 4)::st) (put (b + 1) e s A g) Q:=w_get (dc (.getfield 19,3)) gf_19 put_o rfl
theorem m7_129 : M7 129 [l0,.val (.int v),l2] st H Q = M7 130 [l0,.val (.int v),l2] (.int v::st) H Q:=w_x (dc (.iload_n 1,1)) rfl
theorem m7_130  : M7 130 ls (.int j::.ref ((b + 1) + 4)::st) (put (b + 1) e s A g) Q = (inB j (A 3)∧M7 131 ls (.int (getA (A 3) j)::st) (put (b + 1) e s A g) Q):=w_ild (dc (.iaload,1)) rfl put_a3
theorem m7_131  : M7 131 ls (.int j::.ref ((b + 1) + 2)::st) (put (b + 1) e s A g) Q = (inB j (A 1)∧M7 132 ls (.int (getA (A 1) j)::st) (put (b + 1) e s A g) Q):=w_ild (dc (.iaload,1)) rfl put_a1
theorem cr7_124 : vR tables_1 dn y7 124 = some (true,y8,prog_1_method_22_code,4,none,3,17):=pR_of (cR_of (by decide +kernel) rc_8 dn_8 dn_7 (sig:=⟨[.int,.int,.int],none⟩) (by decide +kernel) (by decide +kernel) rfl rfl) (by decide +kernel) (by decide +kernel)
theorem m7_132 (a0 : Int32) (a1 : Int32) (a2 : Int32) : M7 132 ls [.int a2,.int a1,.int a0,.ref (b + 1)] (put (b + 1) e s A g) Q = M8 0 [.val (.ref (b + 1)),.val (.int a0),.val (.int a1),.val (.int a2)] [] (put (b + 1) e s A g) (fun v H1 => M7 135 ls (v.toList ++ []) H1 Q):=w_virt (as:=[.int a2,.int a1,.int a0]) (rest:=[]) (a:=(b + 1)) (dc (.invokevirtual 124,3)) cr7_124 put_o rfl rfl (Nat.le_of_ble_eq_true rfl) (by show 4≤4; omega) rfl
theorem m7_135 : M7 135 [l0,.val (.int v),l2] st H Q = M7 138 [l0,.val (.int (v + 1)),l2] st H Q:=w_iinc (dc (.iinc 1 1,3)) rfl (by decide) rfl
theorem m7_138 : M7 138 ls st H Q = M7 90 ls st H Q:=w_x (dc (.goto (-48),3)) rfl
theorem m7_141 : M7 141 ls st H Q = M7 142 ls (.int 0::st) H Q:=w_con (dc (.iconst 0,1)) rfl (by decide)
theorem m7_142i : M7 142 [l0,.val (.int z),l2] ((.int v)::st) H Q = M7 143 [l0,.val (.int v),l2] st H Q:=w_st (i:=1) (p:=isI) (dc (.istore_n 1,1)) rfl rfl rfl rfl rfl rfl
theorem m7_143 : M7 143 [l0,.val (.int v),l2] st H Q = M7 144 [l0,.val (.int v),l2] (.int v::st) H Q:=w_x (dc (.iload_n 1,1)) rfl
theorem m7_144 : M7 144 [.val (.ref r),l1,l2] st H Q = M7 145 [.val (.ref r),l1,l2] (.ref r::st) H Q:=w_x (dc (.aload_n 0,1)) rfl
theorem m7_145 : M7 145 ls (.ref (b + 1)::st) (put (b + 1) e s A g) Q = M7 148 ls (.int (s 0)::st) (put (b + 1) e s A g) Q:=w_get (dc (.getfield 65,3)) gf_65 put_o rfl
theorem m7_148 : M7 148 ls (.int y::.int x::st) H Q = if x < y then M7 151 ls st H Q else M7 162 ls st H Q:=w_icmpN (dc (.if_icmp .ge 14,3)) (i_ge x y) rfl
theorem m7_151 : M7 151 [.val (.ref r),l1,l2] st H Q = M7 152 [.val (.ref r),l1,l2] (.ref r::st) H Q:=w_x (dc (.aload_n 0,1)) rfl
theorem m7_152 : M7 152 [l0,.val (.int v),l2] st H Q = M7 153 [l0,.val (.int v),l2] (.int v::st) H Q:=w_x (dc (.iload_n 1,1)) rfl
theorem cr7_128 : vR tables_1 dn y7 128 = some (true,y9,prog_1_method_24_code,6,none,1,0):=pR_of (cR_of (by decide +kernel) rc_9 dn_9 dn_7 (sig:=⟨[.int],none⟩) (by decide +kernel) (by decide +kernel) rfl rfl) (by decide +kernel) (by decide +kernel)
theorem m7_153 (a0 : Int32) : M7 153 ls [.int a0,.ref (b + 1)] (put (b + 1) e s A g) Q = M9 0 [.val (.ref (b + 1)),.val (.int a0),.unset,.unset,.unset,.unset] [] (put (b + 1) e s A g) (fun v H1 => M7 156 ls (v.toList ++ []) H1 Q):=w_virt (as:=[.int a0]) (rest:=[]) (a:=(b + 1)) (dc (.invokevirtual 128,3)) cr7_128 put_o rfl rfl (Nat.le_of_ble_eq_true rfl) (by show 2≤6; omega) rfl
theorem m7_156 : M7 156 [l0,.val (.int v),l2] st H Q = M7 159 [l0,.val (.int (v + 1)),l2] st H Q:=w_iinc (dc (.iinc 1 1,3)) rfl (by decide) rfl
theorem m7_159 : M7 159 ls st H Q = M7 143 ls st H Q:=w_x (dc (.goto (-16),3)) rfl
theorem m7_162 : M7 162 ls [] H Q = Q none H:=w_vret (dc (.return_,1)) rfl
theorem m8_0 : M8 0 [.val (.ref r),l1,l2,l3] st H Q = M8 1 [.val (.ref r),l1,l2,l3] (.ref r::st) H Q:=w_x (dc (.aload_n 0,1)) rfl
theorem m8_1 : M8 1 ls (.ref (b + 1)::st) (put (b + 1) e s A g) Q = M8 4 ls (.ref ((b + 1) + 12)::st) (put (b + 1) e s A g) Q:=w_get (dc (.getfield 43,3)) gf_43 put_o rfl
theorem m8_4 : M8 4 [l0,.val (.int v),l2,l3] st H Q = M8 5 [l0,.val (.int v),l2,l3] (.int v::st) H Q:=w_x (dc (.iload_n 1,1)) rfl
theorem m8_5  : M8 5 ls (.int j::.ref ((b + 1) + 12)::st) (put (b + 1) e s A g) Q = (inB j (A 11)∧M8 6 ls (.int (getA (A 11) j)::st) (put (b + 1) e s A g) Q):=w_ild (dc (.baload,1)) rfl put_a11
theorem m8_6 : M8 6 ls (.int x::st) H Q = if x = 0 then M8 39 ls st H Q else M8 9 ls st H Q:=w_if (dc (.ifCond .eq 33,3)) (z_eq x) rfl
theorem m8_9 : M8 9 [l0,l1,.val (.int v),l3] st H Q = M8 10 [l0,l1,.val (.int v),l3] (.int v::st) H Q:=w_x (dc (.iload_n 2,1)) rfl
theorem m8_10 : M8 10 [.val (.ref r),l1,l2,l3] st H Q = M8 11 [.val (.ref r),l1,l2,l3] (.ref r::st) H Q:=w_x (dc (.aload_n 0,1)) rfl
theorem m8_11 : M8 11 ls (.ref (b + 1)::st) (put (b + 1) e s A g) Q = M8 14 ls (.ref ((b + 1) + 10)::st) (put (b + 1) e s A g) Q:=w_get (dc (.getfield 37,3)) gf_37 put_o rfl
theorem m8_14 : M8 14 [l0,.val (.int v),l2,l3] st H Q = M8 15 [l0,.val (.int v),l2,l3] (.int v::st) H Q:=w_x (dc (.iload_n 1,1)) rfl
theorem m8_15  : M8 15 ls (.int j::.ref ((b + 1) + 10)::st) (put (b + 1) e s A g) Q = (inB j (A 9)∧M8 16 ls (.int (getA (A 9) j)::st) (put (b + 1) e s A g) Q):=w_ild (dc (.iaload,1)) rfl put_a9
theorem m8_16 : M8 16 ls (.int y::.int x::st) H Q = if x < y then M8 39 ls st H Q else M8 19 ls st H Q:=w_icmp (dc (.if_icmp .lt 23,3)) (i_lt x y) rfl
theorem m8_19 : M8 19 [l0,l1,.val (.int v),l3] st H Q = M8 20 [l0,l1,.val (.int v),l3] (.int v::st) H Q:=w_x (dc (.iload_n 2,1)) rfl
theorem m8_20 : M8 20 [.val (.ref r),l1,l2,l3] st H Q = M8 21 [.val (.ref r),l1,l2,l3] (.ref r::st) H Q:=w_x (dc (.aload_n 0,1)) rfl
theorem m8_21 : M8 21 ls (.ref (b + 1)::st) (put (b + 1) e s A g) Q = M8 24 ls (.ref ((b + 1) + 10)::st) (put (b + 1) e s A g) Q:=w_get (dc (.getfield 37,3)) gf_37 put_o rfl
theorem m8_24 : M8 24 [l0,.val (.int v),l2,l3] st H Q = M8 25 [l0,.val (.int v),l2,l3] (.int v::st) H Q:=w_x (dc (.iload_n 1,1)) rfl
theorem m8_25  : M8 25 ls (.int j::.ref ((b + 1) + 10)::st) (put (b + 1) e s A g) Q = (inB j (A 9)∧M8 26 ls (.int (getA (A 9) j)::st) (put (b + 1) e s A g) Q):=w_ild (dc (.iaload,1)) rfl put_a9
theorem m8_26 : M8 26 ls (.int y::.int x::st) H Q = if x = y then M8 29 ls st H Q else M8 60 ls st H Q:=w_icmpN (dc (.if_icmp .ne 34,3)) (i_ne x y) rfl
theorem m8_29 : M8 29 [l0,l1,l2,.val (.int v)] st H Q = M8 30 [l0,l1,l2,.val (.int v)] (.int v::st) H Q:=w_x (dc (.iload_n 3,1)) rfl
theorem m8_30 : M8 30 [.val (.ref r),l1,l2,l3] st H Q = M8 31 [.val (.ref r),l1,l2,l3] (.ref r::st) H Q:=w_x (dc (.aload_n 0,1)) rfl
theorem m8_31 : M8 31 ls (.ref (b + 1)::st) (put (b + 1) e s A g) Q = M8 34 ls (.ref ((b + 1) + 11)::st) (put (b + 1) e s A g) Q:=w_get (dc (.getfield 40,3)) gf_40 put_o rfl
theorem m8_34 : M8 34 [l0,.val (.int v),l2,l3] st H Q = M8 35 [l0,.val (.int v),l2,l3] (.int v::st) H Q:=w_x (dc (.iload_n 1,1)) rfl
theorem m8_35  : M8 35 ls (.int j::.ref ((b + 1) + 11)::st) (put (b + 1) e s A g) Q = (inB j (A 10)∧M8 36 ls (.int (getA (A 10) j)::st) (put (b + 1) e s A g) Q):=w_ild (dc (.iaload,1)) rfl put_a10
theorem m8_36 : M8 36 ls (.int y::.int x::st) H Q = if y < x then M8 39 ls st H Q else M8 60 ls st H Q:=w_icmpN (dc (.if_icmp .le 24,3)) (i_le x y) rfl
theorem m8_39 : M8 39 [.val (.ref r),l1,l2,l3] st H Q = M8 40 [.val (.ref r),l1,l2,l3] (.ref r::st) H Q:=w_x (dc (.aload_n 0,1)) rfl
theorem m8_40 : M8 40 ls (.ref (b + 1)::st) (put (b + 1) e s A g) Q = M8 43 ls (.ref ((b + 1) + 12)::st) (put (b + 1) e s A g) Q:=w_get (dc (.getfield 43,3)) gf_43 put_o rfl
theorem m8_43 : M8 43 [l0,.val (.int v),l2,l3] st H Q = M8 44 [l0,.val (.int v),l2,l3] (.int v::st) H Q:=w_x (dc (.iload_n 1,1)) rfl
theorem m8_44 : M8 44 ls st H Q = M8 45 ls (.int 1::st) H Q:=w_con (dc (.iconst 1,1)) rfl (by decide)
theorem m8_45  : M8 45 ls (.int v::.int j::.ref ((b + 1) + 12)::st) (put (b + 1) e s A g) Q = (inB j (A 11)∧M8 46 ls st (put (b + 1) e s (ou A 11 (setA (A 11) j (nar .boolean v))) g) Q):=w_ist (dc (.bastore,1)) rfl put_a11 (by omega) rfl put_w11
theorem m8_46 : M8 46 [.val (.ref r),l1,l2,l3] st H Q = M8 47 [.val (.ref r),l1,l2,l3] (.ref r::st) H Q:=w_x (dc (.aload_n 0,1)) rfl
theorem m8_47 : M8 47 ls (.ref (b + 1)::st) (put (b + 1) e s A g) Q = M8 50 ls (.ref ((b + 1) + 10)::st) (put (b + 1) e s A g) Q:=w_get (dc (.getfield 37,3)) gf_37 put_o rfl
theorem m8_50 : M8 50 [l0,.val (.int v),l2,l3] st H Q = M8 51 [l0,.val (.int v),l2,l3] (.int v::st) H Q:=w_x (dc (.iload_n 1,1)) rfl
theorem m8_51 : M8 51 [l0,l1,.val (.int v),l3] st H Q = M8 52 [l0,l1,.val (.int v),l3] (.int v::st) H Q:=w_x (dc (.iload_n 2,1)) rfl
theorem m8_52  : M8 52 ls (.int v::.int j::.ref ((b + 1) + 10)::st) (put (b + 1) e s A g) Q = (inB j (A 9)∧M8 53 ls st (put (b + 1) e s (ou A 9 (setA (A 9) j v)) g) Q):=w_ist (dc (.iastore,1)) rfl put_a9 (by omega) rfl put_w9
theorem m8_53 : M8 53 [.val (.ref r),l1,l2,l3] st H Q = M8 54 [.val (.ref r),l1,l2,l3] (.ref r::st) H Q:=w_x (dc (.aload_n 0,1)) rfl
theorem m8_54 : M8 54 ls (.ref (b + 1)::st) (put (b + 1) e s A g) Q = M8 57 ls (.ref ((b + 1) + 11)::st) (put (b + 1) e s A g) Q:=w_get (dc (.getfield 40,3)) gf_40 put_o rfl
theorem m8_57 : M8 57 [l0,.val (.int v),l2,l3] st H Q = M8 58 [l0,.val (.int v),l2,l3] (.int v::st) H Q:=w_x (dc (.iload_n 1,1)) rfl
theorem m8_58 : M8 58 [l0,l1,l2,.val (.int v)] st H Q = M8 59 [l0,l1,l2,.val (.int v)] (.int v::st) H Q:=w_x (dc (.iload_n 3,1)) rfl
theorem m8_59  : M8 59 ls (.int v::.int j::.ref ((b + 1) + 11)::st) (put (b + 1) e s A g) Q = (inB j (A 10)∧M8 60 ls st (put (b + 1) e s (ou A 10 (setA (A 10) j v)) g) Q):=w_ist (dc (.iastore,1)) rfl put_a10 (by omega) rfl put_w10
theorem m8_60 : M8 60 ls [] H Q = Q none H:=w_vret (dc (.return_,1)) rfl
theorem m9_0 : M9 0 ls st H Q = M9 1 ls (.int 0::st) H Q:=w_con (dc (.iconst 0,1)) rfl (by decide)
theorem m9_1u : M9 1 [l0,l1,.unset,l3,l4,l5] ((.int v)::st) H Q = M9 2 [l0,l1,.val (.int v),l3,l4,l5] st H Q:=w_st (i:=2) (p:=isI) (dc (.istore_n 2,1)) rfl rfl rfl rfl rfl rfl
theorem m9_2 : M9 2 [l0,l1,.val (.int v),l3,l4,l5] st H Q = M9 3 [l0,l1,.val (.int v),l3,l4,l5] (.int v::st) H Q:=w_x (dc (.iload_n 2,1)) rfl
theorem m9_3 : M9 3 [.val (.ref r),l1,l2,l3,l4,l5] st H Q = M9 4 [.val (.ref r),l1,l2,l3,l4,l5] (.ref r::st) H Q:=w_x (dc (.aload_n 0,1)) rfl
theorem m9_4 : M9 4 ls (.ref (b + 1)::st) (put (b + 1) e s A g) Q = M9 7 ls (.int (s 0)::st) (put (b + 1) e s A g) Q:=w_get (dc (.getfield 65,3)) gf_65 put_o rfl
theorem m9_7 : M9 7 ls (.int y::.int x::st) H Q = if x < y then M9 10 ls st H Q else M9 111 ls st H Q:=w_icmpN (dc (.if_icmp .ge 104,3)) (i_ge x y) rfl
theorem m9_10 : M9 10 [l0,l1,.val (.int v),l3,l4,l5] st H Q = M9 11 [l0,l1,.val (.int v),l3,l4,l5] (.int v::st) H Q:=w_x (dc (.iload_n 2,1)) rfl
theorem m9_11 : M9 11 ls st H Q = M9 13 ls (.int 32::st) H Q:=w_con (dc (.bipush 32,2)) rfl (by decide)
theorem m9_13 : M9 13 ls (.int y::.int x::st) H Q = M9 14 ls (.int (x * y)::st) H Q:=w_x (dc (.imul,1)) rfl
theorem m9_14 : M9 14 [l0,.val (.int v),l2,l3,l4,l5] st H Q = M9 15 [l0,.val (.int v),l2,l3,l4,l5] (.int v::st) H Q:=w_x (dc (.iload_n 1,1)) rfl
theorem m9_15 : M9 15 ls (.int y::.int x::st) H Q = M9 16 ls (.int (x + y)::st) H Q:=w_x (dc (.iadd,1)) rfl
theorem m9_16u : M9 16 [l0,l1,l2,.unset,l4,l5] ((.int v)::st) H Q = M9 17 [l0,l1,l2,.val (.int v),l4,l5] st H Q:=w_st (i:=3) (p:=isI) (dc (.istore_n 3,1)) rfl rfl rfl rfl rfl rfl
theorem m9_16i : M9 16 [l0,l1,l2,.val (.int z),l4,l5] ((.int v)::st) H Q = M9 17 [l0,l1,l2,.val (.int v),l4,l5] st H Q:=w_st (i:=3) (p:=isI) (dc (.istore_n 3,1)) rfl rfl rfl rfl rfl rfl
theorem m9_16g (h : okS l3) : M9 16 [l0,l1,l2,l3,l4,l5] ((.int v)::st) H Q = M9 17 [l0,l1,l2,.val (.int v),l4,l5] st H Q:=by rcases h with rfl | ⟨z,rfl⟩ <;> first | exact m9_16u | exact m9_16i
theorem m9_17 : M9 17 [.val (.ref r),l1,l2,l3,l4,l5] st H Q = M9 18 [.val (.ref r),l1,l2,l3,l4,l5] (.ref r::st) H Q:=w_x (dc (.aload_n 0,1)) rfl
theorem m9_18 : M9 18 ls (.ref (b + 1)::st) (put (b + 1) e s A g) Q = M9 21 ls (.ref ((b + 1) + 12)::st) (put (b + 1) e s A g) Q:=w_get (dc (.getfield 43,3)) gf_43 put_o rfl
theorem m9_21 : M9 21 [l0,l1,l2,.val (.int v),l4,l5] st H Q = M9 22 [l0,l1,l2,.val (.int v),l4,l5] (.int v::st) H Q:=w_x (dc (.iload_n 3,1)) rfl
theorem m9_22  : M9 22 ls (.int j::.ref ((b + 1) + 12)::st) (put (b + 1) e s A g) Q = (inB j (A 11)∧M9 23 ls (.int (getA (A 11) j)::st) (put (b + 1) e s A g) Q):=w_ild (dc (.baload,1)) rfl put_a11
theorem m9_23 : M9 23 ls (.int x::st) H Q = if x = 0 then M9 26 ls st H Q else M9 29 ls st H Q:=w_ifN (dc (.ifCond .ne 6,3)) (z_ne x) rfl
theorem m9_26 : M9 26 ls st H Q = M9 105 ls st H Q:=w_x (dc (.goto 79,3)) rfl
theorem m9_29 : M9 29 ls st H Q = M9 30 ls (.int 0::st) H Q:=w_con (dc (.iconst 0,1)) rfl (by decide)
theorem m9_30u : M9 30 [l0,l1,l2,l3,.unset,l5] ((.int v)::st) H Q = M9 32 [l0,l1,l2,l3,.val (.int v),l5] st H Q:=w_st (i:=4) (p:=isI) (dc (.istore 4,2)) rfl rfl rfl rfl rfl rfl
theorem m9_30i : M9 30 [l0,l1,l2,l3,.val (.int z),l5] ((.int v)::st) H Q = M9 32 [l0,l1,l2,l3,.val (.int v),l5] st H Q:=w_st (i:=4) (p:=isI) (dc (.istore 4,2)) rfl rfl rfl rfl rfl rfl
theorem m9_30g (h : okS l4) : M9 30 [l0,l1,l2,l3,l4,l5] ((.int v)::st) H Q = M9 32 [l0,l1,l2,l3,.val (.int v),l5] st H Q:=by rcases h with rfl | ⟨z,rfl⟩ <;> first | exact m9_30u | exact m9_30i
theorem m9_32 : M9 32 [l0,l1,l2,l3,.val (.int v),l5] st H Q = M9 34 [l0,l1,l2,l3,.val (.int v),l5] (.int v::st) H Q:=w_x (dc (.iload 4,2)) rfl
theorem m9_34 : M9 34 [.val (.ref r),l1,l2,l3,l4,l5] st H Q = M9 35 [.val (.ref r),l1,l2,l3,l4,l5] (.ref r::st) H Q:=w_x (dc (.aload_n 0,1)) rfl
theorem m9_35 : M9 35 ls (.ref (b + 1)::st) (put (b + 1) e s A g) Q = M9 38 ls (.int (s 0)::st) (put (b + 1) e s A g) Q:=w_get (dc (.getfield 65,3)) gf_65 put_o rfl
theorem m9_38 : M9 38 ls (.int y::.int x::st) H Q = if x < y then M9 41 ls st H Q else M9 105 ls st H Q:=w_icmpN (dc (.if_icmp .ge 67,3)) (i_ge x y) rfl
theorem m9_41 : M9 41 [l0,.val (.int v),l2,l3,l4,l5] st H Q = M9 42 [l0,.val (.int v),l2,l3,l4,l5] (.int v::st) H Q:=w_x (dc (.iload_n 1,1)) rfl
theorem m9_42 : M9 42 ls st H Q = M9 44 ls (.int 32::st) H Q:=w_con (dc (.bipush 32,2)) rfl (by decide)
theorem m9_44 : M9 44 ls (.int y::.int x::st) H Q = M9 45 ls (.int (x * y)::st) H Q:=w_x (dc (.imul,1)) rfl
theorem m9_45 : M9 45 [l0,l1,l2,l3,.val (.int v),l5] st H Q = M9 47 [l0,l1,l2,l3,.val (.int v),l5] (.int v::st) H Q:=w_x (dc (.iload 4,2)) rfl
theorem m9_47 : M9 47 ls (.int y::.int x::st) H Q = M9 48 ls (.int (x + y)::st) H Q:=w_x (dc (.iadd,1)) rfl
theorem m9_48u : M9 48 [l0,l1,l2,l3,l4,.unset] ((.int v)::st) H Q = M9 50 [l0,l1,l2,l3,l4,.val (.int v)] st H Q:=w_st (i:=5) (p:=isI) (dc (.istore 5,2)) rfl rfl rfl rfl rfl rfl
theorem m9_48i : M9 48 [l0,l1,l2,l3,l4,.val (.int z)] ((.int v)::st) H Q = M9 50 [l0,l1,l2,l3,l4,.val (.int v)] st H Q:=w_st (i:=5) (p:=isI) (dc (.istore 5,2)) rfl rfl rfl rfl rfl rfl
theorem m9_48g (h : okS l5) : M9 48 [l0,l1,l2,l3,l4,l5] ((.int v)::st) H Q = M9 50 [l0,l1,l2,l3,l4,.val (.int v)] st H Q:=by rcases h with rfl | ⟨z,rfl⟩ <;> first | exact m9_48u | exact m9_48i
theorem m9_50 : M9 50 [.val (.ref r),l1,l2,l3,l4,l5] st H Q = M9 51 [.val (.ref r),l1,l2,l3,l4,l5] (.ref r::st) H Q:=w_x (dc (.aload_n 0,1)) rfl
theorem m9_51 : M9 51 ls (.ref (b + 1)::st) (put (b + 1) e s A g) Q = M9 54 ls (.ref ((b + 1) + 12)::st) (put (b + 1) e s A g) Q:=w_get (dc (.getfield 43,3)) gf_43 put_o rfl
theorem m9_54 : M9 54 [l0,l1,l2,l3,l4,.val (.int v)] st H Q = M9 56 [l0,l1,l2,l3,l4,.val (.int v)] (.int v::st) H Q:=w_x (dc (.iload 5,2)) rfl
theorem m9_56  : M9 56 ls (.int j::.ref ((b + 1) + 12)::st) (put (b + 1) e s A g) Q = (inB j (A 11)∧M9 57 ls (.int (getA (A 11) j)::st) (put (b + 1) e s A g) Q):=w_ild (dc (.baload,1)) rfl put_a11
theorem m9_57 : M9 57 ls (.int x::st) H Q = if x = 0 then M9 99 ls st H Q else M9 60 ls st H Q:=w_if (dc (.ifCond .eq 42,3)) (z_eq x) rfl
theorem m9_60 : M9 60 [.val (.ref r),l1,l2,l3,l4,l5] st H Q = M9 61 [.val (.ref r),l1,l2,l3,l4,l5] (.ref r::st) H Q:=w_x (dc (.aload_n 0,1)) rfl
theorem m9_61 : M9 61 [l0,l1,.val (.int v),l3,l4,l5] st H Q = M9 62 [l0,l1,.val (.int v),l3,l4,l5] (.int v::st) H Q:=w_x (dc (.iload_n 2,1)) rfl
theorem m9_62 : M9 62 ls st H Q = M9 64 ls (.int 32::st) H Q:=w_con (dc (.bipush 32,2)) rfl (by decide)
theorem m9_64 : M9 64 ls (.int y::.int x::st) H Q = M9 65 ls (.int (x * y)::st) H Q:=w_x (dc (.imul,1)) rfl
theorem m9_65 : M9 65 [l0,l1,l2,l3,.val (.int v),l5] st H Q = M9 67 [l0,l1,l2,l3,.val (.int v),l5] (.int v::st) H Q:=w_x (dc (.iload 4,2)) rfl
theorem m9_67 : M9 67 ls (.int y::.int x::st) H Q = M9 68 ls (.int (x + y)::st) H Q:=w_x (dc (.iadd,1)) rfl
theorem m9_68 : M9 68 [.val (.ref r),l1,l2,l3,l4,l5] st H Q = M9 69 [.val (.ref r),l1,l2,l3,l4,l5] (.ref r::st) H Q:=w_x (dc (.aload_n 0,1)) rfl
theorem m9_69 : M9 69 ls (.ref (b + 1)::st) (put (b + 1) e s A g) Q = M9 72 ls (.ref ((b + 1) + 10)::st) (put (b + 1) e s A g) Q:=w_get (dc (.getfield 37,3)) gf_37 put_o rfl
theorem m9_72 : M9 72 [l0,l1,l2,.val (.int v),l4,l5] st H Q = M9 73 [l0,l1,l2,.val (.int v),l4,l5] (.int v::st) H Q:=w_x (dc (.iload_n 3,1)) rfl
theorem m9_73  : M9 73 ls (.int j::.ref ((b + 1) + 10)::st) (put (b + 1) e s A g) Q = (inB j (A 9)∧M9 74 ls (.int (getA (A 9) j)::st) (put (b + 1) e s A g) Q):=w_ild (dc (.iaload,1)) rfl put_a9
theorem m9_74 : M9 74 [.val (.ref r),l1,l2,l3,l4,l5] st H Q = M9 75 [.val (.ref r),l1,l2,l3,l4,l5] (.ref r::st) H Q:=w_x (dc (.aload_n 0,1)) rfl
theorem m9_75 : M9 75 ls (.ref (b + 1)::st) (put (b + 1) e s A g) Q = M9 78 ls (.ref ((b + 1) + 10)::st) (put (b + 1) e s A g) Q:=w_get (dc (.getfield 37,3)) gf_37 put_o rfl
theorem m9_78 : M9 78 [l0,l1,l2,l3,l4,.val (.int v)] st H Q = M9 80 [l0,l1,l2,l3,l4,.val (.int v)] (.int v::st) H Q:=w_x (dc (.iload 5,2)) rfl
theorem m9_80  : M9 80 ls (.int j::.ref ((b + 1) + 10)::st) (put (b + 1) e s A g) Q = (inB j (A 9)∧M9 81 ls (.int (getA (A 9) j)::st) (put (b + 1) e s A g) Q):=w_ild (dc (.iaload,1)) rfl put_a9
theorem m9_81 : M9 81 ls (.int y::.int x::st) H Q = M9 82 ls (.int (x + y)::st) H Q:=w_x (dc (.iadd,1)) rfl
theorem m9_82 : M9 82 [.val (.ref r),l1,l2,l3,l4,l5] st H Q = M9 83 [.val (.ref r),l1,l2,l3,l4,l5] (.ref r::st) H Q:=w_x (dc (.aload_n 0,1)) rfl
theorem m9_83 : M9 83 ls (.ref (b + 1)::st) (put (b + 1) e s A g) Q = M9 86 ls (.ref ((b + 1) + 11)::st) (put (b + 1) e s A g) Q:=w_get (dc (.getfield 40,3)) gf_40 put_o rfl
theorem m9_86 : M9 86 [l0,l1,l2,.val (.int v),l4,l5] st H Q = M9 87 [l0,l1,l2,.val (.int v),l4,l5] (.int v::st) H Q:=w_x (dc (.iload_n 3,1)) rfl
theorem m9_87  : M9 87 ls (.int j::.ref ((b + 1) + 11)::st) (put (b + 1) e s A g) Q = (inB j (A 10)∧M9 88 ls (.int (getA (A 10) j)::st) (put (b + 1) e s A g) Q):=w_ild (dc (.iaload,1)) rfl put_a10
theorem m9_88 : M9 88 [.val (.ref r),l1,l2,l3,l4,l5] st H Q = M9 89 [.val (.ref r),l1,l2,l3,l4,l5] (.ref r::st) H Q:=w_x (dc (.aload_n 0,1)) rfl
theorem m9_89 : M9 89 ls (.ref (b + 1)::st) (put (b + 1) e s A g) Q = M9 92 ls (.ref ((b + 1) + 11)::st) (put (b + 1) e s A g) Q:=w_get (dc (.getfield 40,3)) gf_40 put_o rfl
theorem m9_92 : M9 92 [l0,l1,l2,l3,l4,.val (.int v)] st H Q = M9 94 [l0,l1,l2,l3,l4,.val (.int v)] (.int v::st) H Q:=w_x (dc (.iload 5,2)) rfl
theorem m9_94  : M9 94 ls (.int j::.ref ((b + 1) + 11)::st) (put (b + 1) e s A g) Q = (inB j (A 10)∧M9 95 ls (.int (getA (A 10) j)::st) (put (b + 1) e s A g) Q):=w_ild (dc (.iaload,1)) rfl put_a10
theorem m9_95 : M9 95 ls (.int y::.int x::st) H Q = M9 96 ls (.int (x + y)::st) H Q:=w_x (dc (.iadd,1)) rfl
theorem cr9_124 : vR tables_1 dn y9 124 = some (true,y8,prog_1_method_22_code,4,none,3,0):=pR_of (cR_of (by decide +kernel) rc_8 dn_8 dn_9 (sig:=⟨[.int,.int,.int],none⟩) (by decide +kernel) (by decide +kernel) rfl rfl) (by decide +kernel) (by decide +kernel)
theorem m9_96 (a0 : Int32) (a1 : Int32) (a2 : Int32) : M9 96 ls [.int a2,.int a1,.int a0,.ref (b + 1)] (put (b + 1) e s A g) Q = M8 0 [.val (.ref (b + 1)),.val (.int a0),.val (.int a1),.val (.int a2)] [] (put (b + 1) e s A g) (fun v H1 => M9 99 ls (v.toList ++ []) H1 Q):=w_virt (as:=[.int a2,.int a1,.int a0]) (rest:=[]) (a:=(b + 1)) (dc (.invokevirtual 124,3)) cr9_124 put_o rfl rfl (Nat.le_of_ble_eq_true rfl) (by show 4≤4; omega) rfl
theorem m9_99 : M9 99 [l0,l1,l2,l3,.val (.int v),l5] st H Q = M9 102 [l0,l1,l2,l3,.val (.int (v + 1)),l5] st H Q:=w_iinc (dc (.iinc 4 1,3)) rfl (by decide) rfl
theorem m9_102 : M9 102 ls st H Q = M9 32 ls st H Q:=w_x (dc (.goto (-70),3)) rfl
theorem m9_105 : M9 105 [l0,l1,.val (.int v),l3,l4,l5] st H Q = M9 108 [l0,l1,.val (.int (v + 1)),l3,l4,l5] st H Q:=w_iinc (dc (.iinc 2 1,3)) rfl (by decide) rfl
theorem m9_108 : M9 108 ls st H Q = M9 2 ls st H Q:=w_x (dc (.goto (-106),3)) rfl
theorem m9_111 : M9 111 ls [] H Q = Q none H:=w_vret (dc (.return_,1)) rfl
theorem m10_0 : M10 0 ls st H Q = M10 1 ls (.int 0::st) H Q:=w_con (dc (.iconst 0,1)) rfl (by decide)
theorem m10_1u : M10 1 [l0,.unset,l2,l3,l4] ((.int v)::st) H Q = M10 2 [l0,.val (.int v),l2,l3,l4] st H Q:=w_st (i:=1) (p:=isI) (dc (.istore_n 1,1)) rfl rfl rfl rfl rfl rfl
theorem m10_2 : M10 2 [.val (.ref r),l1,l2,l3,l4] st H Q = M10 3 [.val (.ref r),l1,l2,l3,l4] (.ref r::st) H Q:=w_x (dc (.aload_n 0,1)) rfl
theorem m10_3 : M10 3 ls (.ref (b + 1)::st) (put (b + 1) e s A g) Q = M10 6 ls (.int (s 6)::st) (put (b + 1) e s A g) Q:=w_get (dc (.getfield 93,3)) gf_93 put_o rfl
theorem m10_6u : M10 6 [l0,l1,.unset,l3,l4] ((.int v)::st) H Q = M10 7 [l0,l1,.val (.int v),l3,l4] st H Q:=w_st (i:=2) (p:=isI) (dc (.istore_n 2,1)) rfl rfl rfl rfl rfl rfl
theorem m10_7 : M10 7 ls st H Q = M10 8 ls (.int 0::st) H Q:=w_con (dc (.iconst 0,1)) rfl (by decide)
theorem m10_8u : M10 8 [l0,l1,l2,.unset,l4] ((.int v)::st) H Q = M10 9 [l0,l1,l2,.val (.int v),l4] st H Q:=w_st (i:=3) (p:=isI) (dc (.istore_n 3,1)) rfl rfl rfl rfl rfl rfl
theorem m10_9 : M10 9 [l0,l1,l2,.val (.int v),l4] st H Q = M10 10 [l0,l1,l2,.val (.int v),l4] (.int v::st) H Q:=w_x (dc (.iload_n 3,1)) rfl
theorem m10_10 : M10 10 ls st H Q = M10 12 ls (.int 40::st) H Q:=w_con (dc (.bipush 40,2)) rfl (by decide)
theorem m10_12 : M10 12 ls (.int y::.int x::st) H Q = if x < y then M10 15 ls st H Q else M10 55 ls st H Q:=w_icmpN (dc (.if_icmp .ge 43,3)) (i_ge x y) rfl
theorem m10_15 : M10 15 [l0,.val (.int v),l2,l3,l4] st H Q = M10 16 [l0,.val (.int v),l2,l3,l4] (.int v::st) H Q:=w_x (dc (.iload_n 1,1)) rfl
theorem m10_16 : M10 16 [l0,l1,.val (.int v),l3,l4] st H Q = M10 17 [l0,l1,.val (.int v),l3,l4] (.int v::st) H Q:=w_x (dc (.iload_n 2,1)) rfl
theorem m10_17 : M10 17 ls (.int y::.int x::st) H Q = if x < y then M10 20 ls st H Q else M10 55 ls st H Q:=w_icmpN (dc (.if_icmp .ge 38,3)) (i_ge x y) rfl
theorem m10_20 : M10 20 [l0,.val (.int v),l2,l3,l4] st H Q = M10 21 [l0,.val (.int v),l2,l3,l4] (.int v::st) H Q:=w_x (dc (.iload_n 1,1)) rfl
theorem m10_21 : M10 21 [l0,l1,.val (.int v),l3,l4] st H Q = M10 22 [l0,l1,.val (.int v),l3,l4] (.int v::st) H Q:=w_x (dc (.iload_n 2,1)) rfl
theorem m10_22 : M10 22 [l0,.val (.int v),l2,l3,l4] st H Q = M10 23 [l0,.val (.int v),l2,l3,l4] (.int v::st) H Q:=w_x (dc (.iload_n 1,1)) rfl
theorem m10_23 : M10 23 ls (.int y::.int x::st) H Q = M10 24 ls (.int (x - y)::st) H Q:=w_x (dc (.isub,1)) rfl
theorem m10_24 : M10 24 ls st H Q = M10 25 ls (.int 2::st) H Q:=w_con (dc (.iconst 2,1)) rfl (by decide)
theorem m10_25 : M10 25 ls (.int y::.int x::st) H Q = (y ≠ 0∧M10 26 ls (.int (x / y)::st) H Q):=w_div (f:=fun x y => x / y) (dc (.idiv,1)) (fun _ => rfl) rfl rfl
theorem m10_26 : M10 26 ls (.int y::.int x::st) H Q = M10 27 ls (.int (x + y)::st) H Q:=w_x (dc (.iadd,1)) rfl
theorem m10_27u : M10 27 [l0,l1,l2,l3,.unset] ((.int v)::st) H Q = M10 29 [l0,l1,l2,l3,.val (.int v)] st H Q:=w_st (i:=4) (p:=isI) (dc (.istore 4,2)) rfl rfl rfl rfl rfl rfl
theorem m10_27i : M10 27 [l0,l1,l2,l3,.val (.int z)] ((.int v)::st) H Q = M10 29 [l0,l1,l2,l3,.val (.int v)] st H Q:=w_st (i:=4) (p:=isI) (dc (.istore 4,2)) rfl rfl rfl rfl rfl rfl
theorem m10_27g (h : okS l4) : M10 27 [l0,l1,l2,l3,l4] ((.int v)::st) H Q = M10 29 [l0,l1,l2,l3,.val (.int v)] st H Q:=by rcases h with rfl | ⟨z,rfl⟩ <;> first | exact m10_27u | exact m10_27i
theorem m10_29 : M10 29 [.val (.ref r),l1,l2,l3,l4] st H Q = M10 30 [.val (.ref r),l1,l2,l3,l4] (.ref r::st) H Q:=w_x (dc (.aload_n 0,1)) rfl
theorem m10_30 : M10 30 [l0,l1,l2,l3,.val (.int v)] st H Q = M10 32 [l0,l1,l2,l3,.val (.int v)] (.int v::st) H Q:=w_x (dc (.iload 4,2)) rfl
theorem cr10_103 : vR tables_1 dn y10 103 = some (true,y11,prog_1_method_26_code,3,(some .boolean),1,0):=pR_of (cR_of (by decide +kernel) rc_11 dn_11 dn_10 (sig:=⟨[.int],some .boolean⟩) (by decide +kernel) (by decide +kernel) rfl rfl) (by decide +kernel) (by decide +kernel)
theorem m10_32 (a0 : Int32) : M10 32 ls [.int a0,.ref (b + 1)] (put (b + 1) e s A g) Q = M11 0 [.val (.ref (b + 1)),.val (.int a0),.unset] [] (put (b + 1) e s A g) (fun v H1 => M10 35 ls (v.toList ++ []) H1 Q):=w_virt (as:=[.int a0]) (rest:=[]) (a:=(b + 1)) (dc (.invokevirtual 103,3)) cr10_103 put_o rfl rfl (Nat.le_of_ble_eq_true rfl) (by show 2≤3; omega) rfl
theorem m10_35 : M10 35 ls (.int x::st) H Q = if x = 0 then M10 44 ls st H Q else M10 38 ls st H Q:=w_if (dc (.ifCond .eq 9,3)) (z_eq x) rfl
theorem m10_38 : M10 38 [l0,l1,l2,l3,.val (.int v)] st H Q = M10 40 [l0,l1,l2,l3,.val (.int v)] (.int v::st) H Q:=w_x (dc (.iload 4,2)) rfl
theorem m10_40i : M10 40 [l0,l1,.val (.int z),l3,l4] ((.int v)::st) H Q = M10 41 [l0,l1,.val (.int v),l3,l4] st H Q:=w_st (i:=2) (p:=isI) (dc (.istore_n 2,1)) rfl rfl rfl rfl rfl rfl
theorem m10_41 : M10 41 ls st H Q = M10 49 ls st H Q:=w_x (dc (.goto 8,3)) rfl
theorem m10_44 : M10 44 [l0,l1,l2,l3,.val (.int v)] st H Q = M10 46 [l0,l1,l2,l3,.val (.int v)] (.int v::st) H Q:=w_x (dc (.iload 4,2)) rfl
theorem m10_46 : M10 46 ls st H Q = M10 47 ls (.int 1::st) H Q:=w_con (dc (.iconst 1,1)) rfl (by decide)
theorem m10_47 : M10 47 ls (.int y::.int x::st) H Q = M10 48 ls (.int (x + y)::st) H Q:=w_x (dc (.iadd,1)) rfl
theorem m10_48i : M10 48 [l0,.val (.int z),l2,l3,l4] ((.int v)::st) H Q = M10 49 [l0,.val (.int v),l2,l3,l4] st H Q:=w_st (i:=1) (p:=isI) (dc (.istore_n 1,1)) rfl rfl rfl rfl rfl rfl
theorem m10_49 : M10 49 [l0,l1,l2,.val (.int v),l4] st H Q = M10 52 [l0,l1,l2,.val (.int (v + 1)),l4] st H Q:=w_iinc (dc (.iinc 3 1,3)) rfl (by decide) rfl
theorem m10_52 : M10 52 ls st H Q = M10 9 ls st H Q:=w_x (dc (.goto (-43),3)) rfl
theorem m10_55 : M10 55 [l0,.val (.int v),l2,l3,l4] st H Q = M10 56 [l0,.val (.int v),l2,l3,l4] (.int v::st) H Q:=w_x (dc (.iload_n 1,1)) rfl
theorem m10_56 : M10 56 ls (.int z::st) H Q = Q (some (.int z)) H:=w_iret (dc (.ireturn,1)) rfl
theorem m11_0 : M11 0 ls st H Q = M11 1 ls (.int 0::st) H Q:=w_con (dc (.iconst 0,1)) rfl (by decide)
theorem m11_1u : M11 1 [l0,l1,.unset] ((.int v)::st) H Q = M11 2 [l0,l1,.val (.int v)] st H Q:=w_st (i:=2) (p:=isI) (dc (.istore_n 2,1)) rfl rfl rfl rfl rfl rfl
theorem m11_2 : M11 2 [l0,l1,.val (.int v)] st H Q = M11 3 [l0,l1,.val (.int v)] (.int v::st) H Q:=w_x (dc (.iload_n 2,1)) rfl
theorem m11_3 : M11 3 [.val (.ref r),l1,l2] st H Q = M11 4 [.val (.ref r),l1,l2] (.ref r::st) H Q:=w_x (dc (.aload_n 0,1)) rfl
theorem m11_4 : M11 4 ls (.ref (b + 1)::st) (put (b + 1) e s A g) Q = M11 7 ls (.int (s 0)::st) (put (b + 1) e s A g) Q:=w_get (dc (.getfield 65,3)) gf_65 put_o rfl
theorem m11_7 : M11 7 ls (.int y::.int x::st) H Q = if x < y then M11 10 ls st H Q else M11 23 ls st H Q:=w_icmpN (dc (.if_icmp .ge 16,3)) (i_ge x y) rfl
theorem m11_10 : M11 10 [.val (.ref r),l1,l2] st H Q = M11 11 [.val (.ref r),l1,l2] (.ref r::st) H Q:=w_x (dc (.aload_n 0,1)) rfl
theorem m11_11 : M11 11 ls (.ref (b + 1)::st) (put (b + 1) e s A g) Q = M11 14 ls (.ref ((b + 1) + 13)::st) (put (b + 1) e s A g) Q:=w_get (dc (.getfield 47,3)) gf_47 put_o rfl
theorem m11_14 : M11 14 [l0,l1,.val (.int v)] st H Q = M11 15 [l0,l1,.val (.int v)] (.int v::st) H Q:=w_x (dc (.iload_n 2,1)) rfl
theorem m11_15 : M11 15 ls st H Q = M11 16 ls (.int 0::st) H Q:=w_con (dc (.iconst 0,1)) rfl (by decide)
theorem m11_16  : M11 16 ls (.int v::.int j::.ref ((b + 1) + 13)::st) (put (b + 1) e s A g) Q = (inB j (A 12)∧M11 17 ls st (put (b + 1) e s (ou A 12 (setA (A 12) j v)) g) Q):=w_ist (dc (.iastore,1)) rfl put_a12 (by omega) rfl put_w12
theorem m11_17 : M11 17 [l0,l1,.val (.int v)] st H Q = M11 20 [l0,l1,.val (.int (v + 1))] st H Q:=w_iinc (dc (.iinc 2 1,3)) rfl (by decide) rfl
theorem m11_20 : M11 20 ls st H Q = M11 2 ls st H Q:=w_x (dc (.goto (-18),3)) rfl
theorem m11_23 : M11 23 ls st H Q = M11 24 ls (.int 0::st) H Q:=w_con (dc (.iconst 0,1)) rfl (by decide)
theorem m11_24i : M11 24 [l0,l1,.val (.int z)] ((.int v)::st) H Q = M11 25 [l0,l1,.val (.int v)] st H Q:=w_st (i:=2) (p:=isI) (dc (.istore_n 2,1)) rfl rfl rfl rfl rfl rfl
theorem m11_25 : M11 25 [l0,l1,.val (.int v)] st H Q = M11 26 [l0,l1,.val (.int v)] (.int v::st) H Q:=w_x (dc (.iload_n 2,1)) rfl
theorem m11_26 : M11 26 [.val (.ref r),l1,l2] st H Q = M11 27 [.val (.ref r),l1,l2] (.ref r::st) H Q:=w_x (dc (.aload_n 0,1)) rfl
theorem m11_27 : M11 27 ls (.ref (b + 1)::st) (put (b + 1) e s A g) Q = M11 30 ls (.int (s 0)::st) (put (b + 1) e s A g) Q:=w_get (dc (.getfield 65,3)) gf_65 put_o rfl
theorem m11_30 : M11 30 ls st H Q = M11 31 ls (.int 1::st) H Q:=w_con (dc (.iconst 1,1)) rfl (by decide)
theorem m11_31 : M11 31 ls (.int y::.int x::st) H Q = M11 32 ls (.int (x + y)::st) H Q:=w_x (dc (.iadd,1)) rfl
theorem m11_32 : M11 32 ls (.int y::.int x::st) H Q = if y < x then M11 51 ls st H Q else M11 35 ls st H Q:=w_icmp (dc (.if_icmp .gt 19,3)) (i_gt x y) rfl
theorem m11_35 : M11 35 [.val (.ref r),l1,l2] st H Q = M11 36 [.val (.ref r),l1,l2] (.ref r::st) H Q:=w_x (dc (.aload_n 0,1)) rfl
theorem m11_36 : M11 36 [l0,.val (.int v),l2] st H Q = M11 37 [l0,.val (.int v),l2] (.int v::st) H Q:=w_x (dc (.iload_n 1,1)) rfl
theorem cr11_132 : vR tables_1 dn y11 132 = some (true,y12,prog_1_method_27_code,7,(some .boolean),1,0):=pR_of (cR_of (by decide +kernel) rc_12 dn_12 dn_11 (sig:=⟨[.int],some .boolean⟩) (by decide +kernel) (by decide +kernel) rfl rfl) (by decide +kernel) (by decide +kernel)
theorem m11_37 (a0 : Int32) : M11 37 ls [.int a0,.ref (b + 1)] (put (b + 1) e s A g) Q = M12 0 [.val (.ref (b + 1)),.val (.int a0),.unset,.unset,.unset,.unset,.unset] [] (put (b + 1) e s A g) (fun v H1 => M11 40 ls (v.toList ++ []) H1 Q):=w_virt (as:=[.int a0]) (rest:=[]) (a:=(b + 1)) (dc (.invokevirtual 132,3)) cr11_132 put_o rfl rfl (Nat.le_of_ble_eq_true rfl) (by show 2≤7; omega) rfl
theorem m11_40 : M11 40 ls (.int x::st) H Q = if x = 0 then M11 43 ls st H Q else M11 45 ls st H Q:=w_ifN (dc (.ifCond .ne 5,3)) (z_ne x) rfl
theorem m11_43 : M11 43 ls st H Q = M11 44 ls (.int 1::st) H Q:=w_con (dc (.iconst 1,1)) rfl (by decide)
theorem m11_44 : M11 44 ls (.int z::st) H Q = Q (some (.int (nar .boolean z))) H:=w_iretN (dc (.ireturn,1)) rfl (by simp)
theorem m11_45 : M11 45 [l0,l1,.val (.int v)] st H Q = M11 48 [l0,l1,.val (.int (v + 1))] st H Q:=w_iinc (dc (.iinc 2 1,3)) rfl (by decide) rfl
theorem m11_48 : M11 48 ls st H Q = M11 25 ls st H Q:=w_x (dc (.goto (-23),3)) rfl
theorem m11_51 : M11 51 ls st H Q = M11 52 ls (.int 0::st) H Q:=w_con (dc (.iconst 0,1)) rfl (by decide)
theorem m11_52 : M11 52 ls (.int z::st) H Q = Q (some (.int (nar .boolean z))) H:=w_iretN (dc (.ireturn,1)) rfl (by simp)
theorem m12_0 : M12 0 ls st H Q = M12 1 ls (.int 0::st) H Q:=w_con (dc (.iconst 0,1)) rfl (by decide)
theorem m12_1u : M12 1 [l0,l1,.unset,l3,l4,l5,l6] ((.int v)::st) H Q = M12 2 [l0,l1,.val (.int v),l3,l4,l5,l6] st H Q:=w_st (i:=2) (p:=isI) (dc (.istore_n 2,1)) rfl rfl rfl rfl rfl rfl
theorem m12_2 : M12 2 ls st H Q = M12 3 ls (.int 0::st) H Q:=w_con (dc (.iconst 0,1)) rfl (by decide)
theorem m12_3u : M12 3 [l0,l1,l2,.unset,l4,l5,l6] ((.int v)::st) H Q = M12 4 [l0,l1,l2,.val (.int v),l4,l5,l6] st H Q:=w_st (i:=3) (p:=isI) (dc (.istore_n 3,1)) rfl rfl rfl rfl rfl rfl
theorem m12_4 : M12 4 [l0,l1,l2,.val (.int v),l4,l5,l6] st H Q = M12 5 [l0,l1,l2,.val (.int v),l4,l5,l6] (.int v::st) H Q:=w_x (dc (.iload_n 3,1)) rfl
theorem m12_5 : M12 5 [.val (.ref r),l1,l2,l3,l4,l5,l6] st H Q = M12 6 [.val (.ref r),l1,l2,l3,l4,l5,l6] (.ref r::st) H Q:=w_x (dc (.aload_n 0,1)) rfl
theorem m12_6 : M12 6 ls (.ref (b + 1)::st) (put (b + 1) e s A g) Q = M12 9 ls (.int (s 1)::st) (put (b + 1) e s A g) Q:=w_get (dc (.getfield 69,3)) gf_69 put_o rfl
theorem m12_9 : M12 9 ls (.int y::.int x::st) H Q = if x < y then M12 12 ls st H Q else M12 69 ls st H Q:=w_icmpN (dc (.if_icmp .ge 60,3)) (i_ge x y) rfl
theorem m12_12 : M12 12 [.val (.ref r),l1,l2,l3,l4,l5,l6] st H Q = M12 13 [.val (.ref r),l1,l2,l3,l4,l5,l6] (.ref r::st) H Q:=w_x (dc (.aload_n 0,1)) rfl
theorem m12_13 : M12 13 ls (.ref (b + 1)::st) (put (b + 1) e s A g) Q = M12 16 ls (.ref ((b + 1) + 4)::st) (put (b + 1) e s A g) Q:=w_get (dc (.getfield 19,3)) gf_19 put_o rfl
theorem m12_16 : M12 16 [l0,l1,l2,.val (.int v),l4,l5,l6] st H Q = M12 17 [l0,l1,l2,.val (.int v),l4,l5,l6] (.int v::st) H Q:=w_x (dc (.iload_n 3,1)) rfl
theorem m12_17  : M12 17 ls (.int j::.ref ((b + 1) + 4)::st) (put (b + 1) e s A g) Q = (inB j (A 3)∧M12 18 ls (.int (getA (A 3) j)::st) (put (b + 1) e s A g) Q):=w_ild (dc (.iaload,1)) rfl put_a3
theorem m12_18u : M12 18 [l0,l1,l2,l3,.unset,l5,l6] ((.int v)::st) H Q = M12 20 [l0,l1,l2,l3,.val (.int v),l5,l6] st H Q:=w_st (i:=4) (p:=isI) (dc (.istore 4,2)) rfl rfl rfl rfl rfl rfl
theorem m12_18i : M12 18 [l0,l1,l2,l3,.val (.int z),l5,l6] ((.int v)::st) H Q = M12 20 [l0,l1,l2,l3,.val (.int v),l5,l6] st H Q:=w_st (i:=4) (p:=isI) (dc (.istore 4,2)) rfl rfl rfl rfl rfl rfl
theorem m12_18g (h : okS l4) : M12 18 [l0,l1,l2,l3,l4,l5,l6] ((.int v)::st) H Q = M12 20 [l0,l1,l2,l3,.val (.int v),l5,l6] st H Q:=by rcases h with rfl | ⟨z,rfl⟩ <;> first | exact m12_18u | exact m12_18i
theorem m12_20 : M12 20 [.val (.ref r),l1,l2,l3,l4,l5,l6] st H Q = M12 21 [.val (.ref r),l1,l2,l3,l4,l5,l6] (.ref r::st) H Q:=w_x (dc (.aload_n 0,1)) rfl
theorem m12_21 : M12 21 ls (.ref (b + 1)::st) (put (b + 1) e s A g) Q = M12 24 ls (.ref ((b + 1) + 13)::st) (put (b + 1) e s A g) Q:=w_get (dc (.getfield 47,3)) gf_47 put_o rfl
theorem m12_24 : M12 24 [.val (.ref r),l1,l2,l3,l4,l5,l6] st H Q = M12 25 [.val (.ref r),l1,l2,l3,l4,l5,l6] (.ref r::st) H Q:=w_x (dc (.aload_n 0,1)) rfl
theorem m12_25 : M12 25 ls (.ref (b + 1)::st) (put (b + 1) e s A g) Q = M12 28 ls (.ref ((b + 1) + 5)::st) (put (b + 1) e s A g) Q:=w_get (dc (.getfield 22,3)) gf_22 put_o rfl
theorem m12_28 : M12 28 [l0,l1,l2,.val (.int v),l4,l5,l6] st H Q = M12 29 [l0,l1,l2,.val (.int v),l4,l5,l6] (.int v::st) H Q:=w_x (dc (.iload_n 3,1)) rfl
theorem m12_29  : M12 29 ls (.int j::.ref ((b + 1) + 5)::st) (put (b + 1) e s A g) Q = (inB j (A 4)∧M12 30 ls (.int (getA (A 4) j)::st) (put (b + 1) e s A g) Q):=w_ild (dc (.iaload,1)) rfl put_a4
theorem m12_30  : M12 30 ls (.int j::.ref ((b + 1) + 13)::st) (put (b + 1) e s A g) Q = (inB j (A 12)∧M12 31 ls (.int (getA (A 12) j)::st) (put (b + 1) e s A g) Q):=w_ild (dc (.iaload,1)) rfl put_a12
theorem m12_31 : M12 31 [.val (.ref r),l1,l2,l3,l4,l5,l6] st H Q = M12 32 [.val (.ref r),l1,l2,l3,l4,l5,l6] (.ref r::st) H Q:=w_x (dc (.aload_n 0,1)) rfl
theorem m12_32 : M12 32 ls (.ref (b + 1)::st) (put (b + 1) e s A g) Q = M12 35 ls (.ref ((b + 1) + 6)::st) (put (b + 1) e s A g) Q:=w_get (dc (.getfield 25,3)) gf_25 put_o rfl
theorem m12_35 : M12 35 [l0,l1,l2,.val (.int v),l4,l5,l6] st H Q = M12 36 [l0,l1,l2,.val (.int v),l4,l5,l6] (.int v::st) H Q:=w_x (dc (.iload_n 3,1)) rfl
theorem m12_36  : M12 36 ls (.int j::.ref ((b + 1) + 6)::st) (put (b + 1) e s A g) Q = (inB j (A 5)∧M12 37 ls (.int (getA (A 5) j)::st) (put (b + 1) e s A g) Q):=w_ild (dc (.iaload,1)) rfl put_a5
theorem m12_37 : M12 37 ls (.int y::.int x::st) H Q = M12 38 ls (.int (x + y)::st) H Q:=w_x (dc (.iadd,1)) rfl
theorem m12_38u : M12 38 [l0,l1,l2,l3,l4,.unset,l6] ((.int v)::st) H Q = M12 40 [l0,l1,l2,l3,l4,.val (.int v),l6] st H Q:=w_st (i:=5) (p:=isI) (dc (.istore 5,2)) rfl rfl rfl rfl rfl rfl
theorem m12_38i : M12 38 [l0,l1,l2,l3,l4,.val (.int z),l6] ((.int v)::st) H Q = M12 40 [l0,l1,l2,l3,l4,.val (.int v),l6] st H Q:=w_st (i:=5) (p:=isI) (dc (.istore 5,2)) rfl rfl rfl rfl rfl rfl
theorem m12_38g (h : okS l5) : M12 38 [l0,l1,l2,l3,l4,l5,l6] ((.int v)::st) H Q = M12 40 [l0,l1,l2,l3,l4,.val (.int v),l6] st H Q:=by rcases h with rfl | ⟨z,rfl⟩ <;> first | exact m12_38u | exact m12_38i
theorem m12_40 : M12 40 [l0,l1,l2,l3,l4,.val (.int v),l6] st H Q = M12 42 [l0,l1,l2,l3,l4,.val (.int v),l6] (.int v::st) H Q:=w_x (dc (.iload 5,2)) rfl
theorem m12_42 : M12 42 [.val (.ref r),l1,l2,l3,l4,l5,l6] st H Q = M12 43 [.val (.ref r),l1,l2,l3,l4,l5,l6] (.ref r::st) H Q:=w_x (dc (.aload_n 0,1)) rfl
theorem m12_43 : M12 43 ls (.ref (b + 1)::st) (put (b + 1) e s A g) Q = M12 46 ls (.ref ((b + 1) + 13)::st) (put (b + 1) e s A g) Q:=w_get (dc (.getfield 47,3)) gf_47 put_o rfl
theorem m12_46 : M12 46 [l0,l1,l2,l3,.val (.int v),l5,l6] st H Q = M12 48 [l0,l1,l2,l3,.val (.int v),l5,l6] (.int v::st) H Q:=w_x (dc (.iload 4,2)) rfl
theorem m12_48  : M12 48 ls (.int j::.ref ((b + 1) + 13)::st) (put (b + 1) e s A g) Q = (inB j (A 12)∧M12 49 ls (.int (getA (A 12) j)::st) (put (b + 1) e s A g) Q):=w_ild (dc (.iaload,1)) rfl put_a12
theorem m12_49 : M12 49 ls (.int y::.int x::st) H Q = if x < y then M12 52 ls st H Q else M12 63 ls st H Q:=w_icmpN (dc (.if_icmp .ge 14,3)) (i_ge x y) rfl
theorem m12_52 : M12 52 [.val (.ref r),l1,l2,l3,l4,l5,l6] st H Q = M12 53 [.val (.ref r),l1,l2,l3,l4,l5,l6] (.ref r::st) H Q:=w_x (dc (.aload_n 0,1)) rfl
theorem m12_53 : M12 53 ls (.ref (b + 1)::st) (put (b + 1) e s A g) Q = M12 56 ls (.ref ((b + 1) + 13)::st) (put (b + 1) e s A g) Q:=w_get (dc (.getfield 47,3)) gf_47 put_o rfl
theorem m12_56 : M12 56 [l0,l1,l2,l3,.val (.int v),l5,l6] st H Q = M12 58 [l0,l1,l2,l3,.val (.int v),l5,l6] (.int v::st) H Q:=w_x (dc (.iload 4,2)) rfl
theorem m12_58 : M12 58 [l0,l1,l2,l3,l4,.val (.int v),l6] st H Q = M12 60 [l0,l1,l2,l3,l4,.val (.int v),l6] (.int v::st) H Q:=w_x (dc (.iload 5,2)) rfl
theorem m12_60  : M12 60 ls (.int v::.int j::.ref ((b + 1) + 13)::st) (put (b + 1) e s A g) Q = (inB j (A 12)∧M12 61 ls st (put (b + 1) e s (ou A 12 (setA (A 12) j v)) g) Q):=w_ist (dc (.iastore,1)) rfl put_a12 (by omega) rfl put_w12
theorem m12_61 : M12 61 ls st H Q = M12 62 ls (.int 1::st) H Q:=w_con (dc (.iconst 1,1)) rfl (by decide)
theorem m12_62i : M12 62 [l0,l1,.val (.int z),l3,l4,l5,l6] ((.int v)::st) H Q = M12 63 [l0,l1,.val (.int v),l3,l4,l5,l6] st H Q:=w_st (i:=2) (p:=isI) (dc (.istore_n 2,1)) rfl rfl rfl rfl rfl rfl
theorem m12_63 : M12 63 [l0,l1,l2,.val (.int v),l4,l5,l6] st H Q = M12 66 [l0,l1,l2,.val (.int (v + 1)),l4,l5,l6] st H Q:=w_iinc (dc (.iinc 3 1,3)) rfl (by decide) rfl
theorem m12_66 : M12 66 ls st H Q = M12 4 ls st H Q:=w_x (dc (.goto (-62),3)) rfl
theorem m12_69 : M12 69 ls st H Q = M12 70 ls (.int 0::st) H Q:=w_con (dc (.iconst 0,1)) rfl (by decide)
theorem m12_70i : M12 70 [l0,l1,l2,.val (.int z),l4,l5,l6] ((.int v)::st) H Q = M12 71 [l0,l1,l2,.val (.int v),l4,l5,l6] st H Q:=w_st (i:=3) (p:=isI) (dc (.istore_n 3,1)) rfl rfl rfl rfl rfl rfl
theorem m12_71 : M12 71 [l0,l1,l2,.val (.int v),l4,l5,l6] st H Q = M12 72 [l0,l1,l2,.val (.int v),l4,l5,l6] (.int v::st) H Q:=w_x (dc (.iload_n 3,1)) rfl
theorem m12_72 : M12 72 [.val (.ref r),l1,l2,l3,l4,l5,l6] st H Q = M12 73 [.val (.ref r),l1,l2,l3,l4,l5,l6] (.ref r::st) H Q:=w_x (dc (.aload_n 0,1)) rfl
theorem m12_73 : M12 73 ls (.ref (b + 1)::st) (put (b + 1) e s A g) Q = M12 76 ls (.int (s 0)::st) (put (b + 1) e s A g) Q:=w_get (dc (.getfield 65,3)) gf_65 put_o rfl
theorem m12_76 : M12 76 ls (.int y::.int x::st) H Q = if x < y then M12 79 ls st H Q else M12 181 ls st H Q:=w_icmpN (dc (.if_icmp .ge 105,3)) (i_ge x y) rfl
theorem m12_79 : M12 79 ls st H Q = M12 80 ls (.int 0::st) H Q:=w_con (dc (.iconst 0,1)) rfl (by decide)
theorem m12_80u : M12 80 [l0,l1,l2,l3,.unset,l5,l6] ((.int v)::st) H Q = M12 82 [l0,l1,l2,l3,.val (.int v),l5,l6] st H Q:=w_st (i:=4) (p:=isI) (dc (.istore 4,2)) rfl rfl rfl rfl rfl rfl
theorem m12_80i : M12 80 [l0,l1,l2,l3,.val (.int z),l5,l6] ((.int v)::st) H Q = M12 82 [l0,l1,l2,l3,.val (.int v),l5,l6] st H Q:=w_st (i:=4) (p:=isI) (dc (.istore 4,2)) rfl rfl rfl rfl rfl rfl
theorem m12_80g (h : okS l4) : M12 80 [l0,l1,l2,l3,l4,l5,l6] ((.int v)::st) H Q = M12 82 [l0,l1,l2,l3,.val (.int v),l5,l6] st H Q:=by rcases h with rfl | ⟨z,rfl⟩ <;> first | exact m12_80u | exact m12_80i
theorem m12_82 : M12 82 [l0,l1,l2,l3,.val (.int v),l5,l6] st H Q = M12 84 [l0,l1,l2,l3,.val (.int v),l5,l6] (.int v::st) H Q:=w_x (dc (.iload 4,2)) rfl
theorem m12_84 : M12 84 [.val (.ref r),l1,l2,l3,l4,l5,l6] st H Q = M12 85 [.val (.ref r),l1,l2,l3,l4,l5,l6] (.ref r::st) H Q:=w_x (dc (.aload_n 0,1)) rfl
theorem m12_85 : M12 85 ls (.ref (b + 1)::st) (put (b + 1) e s A g) Q = M12 88 ls (.int (s 0)::st) (put (b + 1) e s A g) Q:=w_get (dc (.getfield 65,3)) gf_65 put_o rfl
theorem m12_88 : M12 88 ls (.int y::.int x::st) H Q = if x < y then M12 91 ls st H Q else M12 175 ls st H Q:=w_icmpN (dc (.if_icmp .ge 87,3)) (i_ge x y) rfl
theorem m12_91 : M12 91 [l0,l1,l2,.val (.int v),l4,l5,l6] st H Q = M12 92 [l0,l1,l2,.val (.int v),l4,l5,l6] (.int v::st) H Q:=w_x (dc (.iload_n 3,1)) rfl
theorem m12_92 : M12 92 ls st H Q = M12 94 ls (.int 32::st) H Q:=w_con (dc (.bipush 32,2)) rfl (by decide)
theorem m12_94 : M12 94 ls (.int y::.int x::st) H Q = M12 95 ls (.int (x * y)::st) H Q:=w_x (dc (.imul,1)) rfl
theorem m12_95 : M12 95 [l0,l1,l2,l3,.val (.int v),l5,l6] st H Q = M12 97 [l0,l1,l2,l3,.val (.int v),l5,l6] (.int v::st) H Q:=w_x (dc (.iload 4,2)) rfl
theorem m12_97 : M12 97 ls (.int y::.int x::st) H Q = M12 98 ls (.int (x + y)::st) H Q:=w_x (dc (.iadd,1)) rfl
theorem m12_98u : M12 98 [l0,l1,l2,l3,l4,.unset,l6] ((.int v)::st) H Q = M12 100 [l0,l1,l2,l3,l4,.val (.int v),l6] st H Q:=w_st (i:=5) (p:=isI) (dc (.istore 5,2)) rfl rfl rfl rfl rfl rfl
theorem m12_98i : M12 98 [l0,l1,l2,l3,l4,.val (.int z),l6] ((.int v)::st) H Q = M12 100 [l0,l1,l2,l3,l4,.val (.int v),l6] st H Q:=w_st (i:=5) (p:=isI) (dc (.istore 5,2)) rfl rfl rfl rfl rfl rfl
theorem m12_98g (h : okS l5) : M12 98 [l0,l1,l2,l3,l4,l5,l6] ((.int v)::st) H Q = M12 100 [l0,l1,l2,l3,l4,.val (.int v),l6] st H Q:=by rcases h with rfl | ⟨z,rfl⟩ <;> first | exact m12_98u | exact m12_98i
theorem m12_100 : M12 100 [.val (.ref r),l1,l2,l3,l4,l5,l6] st H Q = M12 101 [.val (.ref r),l1,l2,l3,l4,l5,l6] (.ref r::st) H Q:=w_x (dc (.aload_n 0,1)) rfl
theorem m12_101 : M12 101 ls (.ref (b + 1)::st) (put (b + 1) e s A g) Q = M12 104 ls (.ref ((b + 1) + 12)::st) (put (b + 1) e s A g) Q:=w_get (dc (.getfield 43,3)) gf_43 put_o rfl
theorem m12_104 : M12 104 [l0,l1,l2,l3,l4,.val (.int v),l6] st H Q = M12 106 [l0,l1,l2,l3,l4,.val (.int v),l6] (.int v::st) H Q:=w_x (dc (.iload 5,2)) rfl
theorem m12_106  : M12 106 ls (.int j::.ref ((b + 1) + 12)::st) (put (b + 1) e s A g) Q = (inB j (A 11)∧M12 107 ls (.int (getA (A 11) j)::st) (put (b + 1) e s A g) Q):=w_ild (dc (.baload,1)) rfl put_a11
theorem m12_107 : M12 107 ls (.int x::st) H Q = if x = 0 then M12 169 ls st H Q else M12 110 ls st H Q:=w_if (dc (.ifCond .eq 62,3)) (z_eq x) rfl
theorem m12_110 : M12 110 [.val (.ref r),l1,l2,l3,l4,l5,l6] st H Q = M12 111 [.val (.ref r),l1,l2,l3,l4,l5,l6] (.ref r::st) H Q:=w_x (dc (.aload_n 0,1)) rfl
theorem m12_111 : M12 111 ls (.ref (b + 1)::st) (put (b + 1) e s A g) Q = M12 114 ls (.ref ((b + 1) + 11)::st) (put (b + 1) e s A g) Q:=w_get (dc (.getfield 40,3)) gf_40 put_o rfl
theorem m12_114 : M12 114 [l0,l1,l2,l3,l4,.val (.int v),l6] st H Q = M12 116 [l0,l1,l2,l3,l4,.val (.int v),l6] (.int v::st) H Q:=w_x (dc (.iload 5,2)) rfl
theorem m12_116  : M12 116 ls (.int j::.ref ((b + 1) + 11)::st) (put (b + 1) e s A g) Q = (inB j (A 10)∧M12 117 ls (.int (getA (A 10) j)::st) (put (b + 1) e s A g) Q):=w_ild (dc (.iaload,1)) rfl put_a10
theorem m12_117 : M12 117 [.val (.ref r),l1,l2,l3,l4,l5,l6] st H Q = M12 118 [.val (.ref r),l1,l2,l3,l4,l5,l6] (.ref r::st) H Q:=w_x (dc (.aload_n 0,1)) rfl
theorem m12_118 : M12 118 ls (.ref (b + 1)::st) (put (b + 1) e s A g) Q = M12 121 ls (.ref ((b + 1) + 2)::st) (put (b + 1) e s A g) Q:=w_get (dc (.getfield 13,3)) gf_13 put_o rfl
theorem m12_121 : M12 121 [l0,l1,l2,l3,.val (.int v),l5,l6] st H Q = M12 123 [l0,l1,l2,l3,.val (.int v),l5,l6] (.int v::st) H Q:=w_x (dc (.iload 4,2)) rfl
theorem m12_123  : M12 123 ls (.int j::.ref ((b + 1) + 2)::st) (put (b + 1) e s A g) Q = (inB j (A 1)∧M12 124 ls (.int (getA (A 1) j)::st) (put (b + 1) e s A g) Q):=w_ild (dc (.iaload,1)) rfl put_a1
theorem m12_124 : M12 124 ls (.int y::.int x::st) H Q = M12 125 ls (.int (x + y)::st) H Q:=w_x (dc (.iadd,1)) rfl
theorem m12_125 : M12 125 [l0,.val (.int v),l2,l3,l4,l5,l6] st H Q = M12 126 [l0,.val (.int v),l2,l3,l4,l5,l6] (.int v::st) H Q:=w_x (dc (.iload_n 1,1)) rfl
theorem m12_126 : M12 126 ls (.int y::.int x::st) H Q = if y < x then M12 129 ls st H Q else M12 169 ls st H Q:=w_icmpN (dc (.if_icmp .le 43,3)) (i_le x y) rfl
theorem m12_129 : M12 129 [.val (.ref r),l1,l2,l3,l4,l5,l6] st H Q = M12 130 [.val (.ref r),l1,l2,l3,l4,l5,l6] (.ref r::st) H Q:=w_x (dc (.aload_n 0,1)) rfl
theorem m12_130 : M12 130 ls (.ref (b + 1)::st) (put (b + 1) e s A g) Q = M12 133 ls (.ref ((b + 1) + 13)::st) (put (b + 1) e s A g) Q:=w_get (dc (.getfield 47,3)) gf_47 put_o rfl
theorem m12_133 : M12 133 [l0,l1,l2,l3,.val (.int v),l5,l6] st H Q = M12 135 [l0,l1,l2,l3,.val (.int v),l5,l6] (.int v::st) H Q:=w_x (dc (.iload 4,2)) rfl
theorem m12_135  : M12 135 ls (.int j::.ref ((b + 1) + 13)::st) (put (b + 1) e s A g) Q = (inB j (A 12)∧M12 136 ls (.int (getA (A 12) j)::st) (put (b + 1) e s A g) Q):=w_ild (dc (.iaload,1)) rfl put_a12
theorem m12_136 : M12 136 [.val (.ref r),l1,l2,l3,l4,l5,l6] st H Q = M12 137 [.val (.ref r),l1,l2,l3,l4,l5,l6] (.ref r::st) H Q:=w_x (dc (.aload_n 0,1)) rfl
theorem m12_137 : M12 137 ls (.ref (b + 1)::st) (put (b + 1) e s A g) Q = M12 140 ls (.ref ((b + 1) + 10)::st) (put (b + 1) e s A g) Q:=w_get (dc (.getfield 37,3)) gf_37 put_o rfl
theorem m12_140 : M12 140 [l0,l1,l2,l3,l4,.val (.int v),l6] st H Q = M12 142 [l0,l1,l2,l3,l4,.val (.int v),l6] (.int v::st) H Q:=w_x (dc (.iload 5,2)) rfl
theorem m12_142  : M12 142 ls (.int j::.ref ((b + 1) + 10)::st) (put (b + 1) e s A g) Q = (inB j (A 9)∧M12 143 ls (.int (getA (A 9) j)::st) (put (b + 1) e s A g) Q):=w_ild (dc (.iaload,1)) rfl put_a9
theorem m12_143 : M12 143 ls (.int y::.int x::st) H Q = M12 144 ls (.int (x + y)::st) H Q:=w_x (dc (.iadd,1)) rfl
theorem m12_144 : M12 144 ls st H Q = M12 145 ls (.int 1::st) H Q:=w_con (dc (.iconst 1,1)) rfl (by decide)
theorem m12_145 : M12 145 ls (.int y::.int x::st) H Q = M12 146 ls (.int (x - y)::st) H Q:=w_x (dc (.isub,1)) rfl
theorem m12_146u : M12 146 [l0,l1,l2,l3,l4,l5,.unset] ((.int v)::st) H Q = M12 148 [l0,l1,l2,l3,l4,l5,.val (.int v)] st H Q:=w_st (i:=6) (p:=isI) (dc (.istore 6,2)) rfl rfl rfl rfl rfl rfl
theorem m12_146i : M12 146 [l0,l1,l2,l3,l4,l5,.val (.int z)] ((.int v)::st) H Q = M12 148 [l0,l1,l2,l3,l4,l5,.val (.int v)] st H Q:=w_st (i:=6) (p:=isI) (dc (.istore 6,2)) rfl rfl rfl rfl rfl rfl
theorem m12_146g (h : okS l6) : M12 146 [l0,l1,l2,l3,l4,l5,l6] ((.int v)::st) H Q = M12 148 [l0,l1,l2,l3,l4,l5,.val (.int v)] st H Q:=by rcases h with rfl | ⟨z,rfl⟩ <;> first | exact m12_146u | exact m12_146i
theorem m12_148 : M12 148 [l0,l1,l2,l3,l4,l5,.val (.int v)] st H Q = M12 150 [l0,l1,l2,l3,l4,l5,.val (.int v)] (.int v::st) H Q:=w_x (dc (.iload 6,2)) rfl
theorem m12_150 : M12 150 [.val (.ref r),l1,l2,l3,l4,l5,l6] st H Q = M12 151 [.val (.ref r),l1,l2,l3,l4,l5,l6] (.ref r::st) H Q:=w_x (dc (.aload_n 0,1)) rfl
theorem m12_151 : M12 151 ls (.ref (b + 1)::st) (put (b + 1) e s A g) Q = M12 154 ls (.ref ((b + 1) + 13)::st) (put (b + 1) e s A g) Q:=w_get (dc (.getfield 47,3)) gf_47 put_o rfl
theorem m12_154 : M12 154 [l0,l1,l2,.val (.int v),l4,l5,l6] st H Q = M12 155 [l0,l1,l2,.val (.int v),l4,l5,l6] (.int v::st) H Q:=w_x (dc (.iload_n 3,1)) rfl
theorem m12_155  : M12 155 ls (.int j::.ref ((b + 1) + 13)::st) (put (b + 1) e s A g) Q = (inB j (A 12)∧M12 156 ls (.int (getA (A 12) j)::st) (put (b + 1) e s A g) Q):=w_ild (dc (.iaload,1)) rfl put_a12
theorem m12_156 : M12 156 ls (.int y::.int x::st) H Q = if x < y then M12 159 ls st H Q else M12 169 ls st H Q:=w_icmpN (dc (.if_icmp .ge 13,3)) (i_ge x y) rfl
theorem m12_159 : M12 159 [.val (.ref r),l1,l2,l3,l4,l5,l6] st H Q = M12 160 [.val (.ref r),l1,l2,l3,l4,l5,l6] (.ref r::st) H Q:=w_x (dc (.aload_n 0,1)) rfl
theorem m12_160 : M12 160 ls (.ref (b + 1)::st) (put (b + 1) e s A g) Q = M12 163 ls (.ref ((b + 1) + 13)::st) (put (b + 1) e s A g) Q:=w_get (dc (.getfield 47,3)) gf_47 put_o rfl
theorem m12_163 : M12 163 [l0,l1,l2,.val (.int v),l4,l5,l6] st H Q = M12 164 [l0,l1,l2,.val (.int v),l4,l5,l6] (.int v::st) H Q:=w_x (dc (.iload_n 3,1)) rfl
theorem m12_164 : M12 164 [l0,l1,l2,l3,l4,l5,.val (.int v)] st H Q = M12 166 [l0,l1,l2,l3,l4,l5,.val (.int v)] (.int v::st) H Q:=w_x (dc (.iload 6,2)) rfl
theorem m12_166  : M12 166 ls (.int v::.int j::.ref ((b + 1) + 13)::st) (put (b + 1) e s A g) Q = (inB j (A 12)∧M12 167 ls st (put (b + 1) e s (ou A 12 (setA (A 12) j v)) g) Q):=w_ist (dc (.iastore,1)) rfl put_a12 (by omega) rfl put_w12
theorem m12_167 : M12 167 ls st H Q = M12 168 ls (.int 1::st) H Q:=w_con (dc (.iconst 1,1)) rfl (by decide)
theorem m12_168i : M12 168 [l0,l1,.val (.int z),l3,l4,l5,l6] ((.int v)::st) H Q = M12 169 [l0,l1,.val (.int v),l3,l4,l5,l6] st H Q:=w_st (i:=2) (p:=isI) (dc (.istore_n 2,1)) rfl rfl rfl rfl rfl rfl
theorem m12_169 : M12 169 [l0,l1,l2,l3,.val (.int v),l5,l6] st H Q = M12 172 [l0,l1,l2,l3,.val (.int (v + 1)),l5,l6] st H Q:=w_iinc (dc (.iinc 4 1,3)) rfl (by decide) rfl
theorem m12_172 : M12 172 ls st H Q = M12 82 ls st H Q:=w_x (dc (.goto (-90),3)) rfl
theorem m12_175 : M12 175 [l0,l1,l2,.val (.int v),l4,l5,l6] st H Q = M12 178 [l0,l1,l2,.val (.int (v + 1)),l4,l5,l6] st H Q:=w_iinc (dc (.iinc 3 1,3)) rfl (by decide) rfl
theorem m12_178 : M12 178 ls st H Q = M12 71 ls st H Q:=w_x (dc (.goto (-107),3)) rfl
theorem m12_181 : M12 181 [l0,l1,.val (.int v),l3,l4,l5,l6] st H Q = M12 182 [l0,l1,.val (.int v),l3,l4,l5,l6] (.int v::st) H Q:=w_x (dc (.iload_n 2,1)) rfl
theorem m12_182 : M12 182 ls (.int z::st) H Q = Q (some (.int (nar .boolean z))) H:=w_iretN (dc (.ireturn,1)) rfl (by simp)
theorem m13_0 : M13 0 ls st H Q = M13 1 ls (.int 0::st) H Q:=w_con (dc (.iconst 0,1)) rfl (by decide)
theorem m13_1u : M13 1 [l0,.unset] ((.int v)::st) H Q = M13 2 [l0,.val (.int v)] st H Q:=w_st (i:=1) (p:=isI) (dc (.istore_n 1,1)) rfl rfl rfl rfl rfl rfl
theorem m13_2 : M13 2 [l0,.val (.int v)] st H Q = M13 3 [l0,.val (.int v)] (.int v::st) H Q:=w_x (dc (.iload_n 1,1)) rfl
theorem m13_3 : M13 3 [.val (.ref r),l1] st H Q = M13 4 [.val (.ref r),l1] (.ref r::st) H Q:=w_x (dc (.aload_n 0,1)) rfl
theorem m13_4 : M13 4 ls (.ref (b + 1)::st) (put (b + 1) e s A g) Q = M13 7 ls (.int (s 0)::st) (put (b + 1) e s A g) Q:=w_get (dc (.getfield 65,3)) gf_65 put_o rfl
theorem m13_7 : M13 7 ls (.int y::.int x::st) H Q = if x < y then M13 10 ls st H Q else M13 35 ls st H Q:=w_icmpN (dc (.if_icmp .ge 28,3)) (i_ge x y) rfl
theorem m13_10 : M13 10 [.val (.ref r),l1] st H Q = M13 11 [.val (.ref r),l1] (.ref r::st) H Q:=w_x (dc (.aload_n 0,1)) rfl
theorem m13_11 : M13 11 ls (.ref (b + 1)::st) (put (b + 1) e s A g) Q = M13 14 ls (.ref ((b + 1) + 14)::st) (put (b + 1) e s A g) Q:=w_get (dc (.getfield 50,3)) gf_50 put_o rfl
theorem m13_14 : M13 14 [l0,.val (.int v)] st H Q = M13 15 [l0,.val (.int v)] (.int v::st) H Q:=w_x (dc (.iload_n 1,1)) rfl
theorem m13_15 : M13 15 [.val (.ref r),l1] st H Q = M13 16 [.val (.ref r),l1] (.ref r::st) H Q:=w_x (dc (.aload_n 0,1)) rfl
theorem m13_16 : M13 16 ls (.ref (b + 1)::st) (put (b + 1) e s A g) Q = M13 19 ls (.ref ((b + 1) + 13)::st) (put (b + 1) e s A g) Q:=w_get (dc (.getfield 47,3)) gf_47 put_o rfl
theorem m13_19 : M13 19 [l0,.val (.int v)] st H Q = M13 20 [l0,.val (.int v)] (.int v::st) H Q:=w_x (dc (.iload_n 1,1)) rfl
theorem m13_20  : M13 20 ls (.int j::.ref ((b + 1) + 13)::st) (put (b + 1) e s A g) Q = (inB j (A 12)∧M13 21 ls (.int (getA (A 12) j)::st) (put (b + 1) e s A g) Q):=w_ild (dc (.iaload,1)) rfl put_a12
theorem m13_21 : M13 21 [.val (.ref r),l1] st H Q = M13 22 [.val (.ref r),l1] (.ref r::st) H Q:=w_x (dc (.aload_n 0,1)) rfl
theorem m13_22 : M13 22 ls (.ref (b + 1)::st) (put (b + 1) e s A g) Q = M13 25 ls (.ref ((b + 1) + 13)::st) (put (b + 1) e s A g) Q:=w_get (dc (.getfield 47,3)) gf_47 put_o rfl
theorem m13_25 : M13 25 ls st H Q = M13 26 ls (.int 0::st) H Q:=w_con (dc (.iconst 0,1)) rfl (by decide)
theorem m13_26  : M13 26 ls (.int j::.ref ((b + 1) + 13)::st) (put (b + 1) e s A g) Q = (inB j (A 12)∧M13 27 ls (.int (getA (A 12) j)::st) (put (b + 1) e s A g) Q):=w_ild (dc (.iaload,1)) rfl put_a12
theorem m13_27 : M13 27 ls (.int y::.int x::st) H Q = M13 28 ls (.int (x - y)::st) H Q:=w_x (dc (.isub,1)) rfl
theorem m13_28  : M13 28 ls (.int v::.int j::.ref ((b + 1) + 14)::st) (put (b + 1) e s A g) Q = (inB j (A 13)∧M13 29 ls st (put (b + 1) e s (ou A 13 (setA (A 13) j v)) g) Q):=w_ist (dc (.iastore,1)) rfl put_a13 (by omega) rfl put_w13
theorem m13_29 : M13 29 [l0,.val (.int v)] st H Q = M13 32 [l0,.val (.int (v + 1))] st H Q:=w_iinc (dc (.iinc 1 1,3)) rfl (by decide) rfl
theorem m13_32 : M13 32 ls st H Q = M13 2 ls st H Q:=w_x (dc (.goto (-30),3)) rfl
theorem m13_35 : M13 35 ls st H Q = M13 36 ls (.int 0::st) H Q:=w_con (dc (.iconst 0,1)) rfl (by decide)
theorem m13_36i : M13 36 [l0,.val (.int z)] ((.int v)::st) H Q = M13 37 [l0,.val (.int v)] st H Q:=w_st (i:=1) (p:=isI) (dc (.istore_n 1,1)) rfl rfl rfl rfl rfl rfl
theorem m13_37 : M13 37 [l0,.val (.int v)] st H Q = M13 38 [l0,.val (.int v)] (.int v::st) H Q:=w_x (dc (.iload_n 1,1)) rfl
theorem m13_38 : M13 38 [.val (.ref r),l1] st H Q = M13 39 [.val (.ref r),l1] (.ref r::st) H Q:=w_x (dc (.aload_n 0,1)) rfl
theorem m13_39 : M13 39 ls (.ref (b + 1)::st) (put (b + 1) e s A g) Q = M13 42 ls (.int (s 1)::st) (put (b + 1) e s A g) Q:=w_get (dc (.getfield 69,3)) gf_69 put_o rfl
theorem m13_42 : M13 42 ls (.int y::.int x::st) H Q = if x < y then M13 45 ls st H Q else M13 87 ls st H Q:=w_icmpN (dc (.if_icmp .ge 45,3)) (i_ge x y) rfl
theorem m13_45 : M13 45 [.val (.ref r),l1] st H Q = M13 46 [.val (.ref r),l1] (.ref r::st) H Q:=w_x (dc (.aload_n 0,1)) rfl
theorem m13_46 : M13 46 ls (.ref (b + 1)::st) (put (b + 1) e s A g) Q = M13 49 ls (.ref ((b + 1) + 7)::st) (put (b + 1) e s A g) Q:=w_get (dc (.getfield 28,3)) gf_28 put_o rfl
theorem m13_49 : M13 49 [l0,.val (.int v)] st H Q = M13 50 [l0,.val (.int v)] (.int v::st) H Q:=w_x (dc (.iload_n 1,1)) rfl
theorem m13_50 : M13 50 [.val (.ref r),l1] st H Q = M13 51 [.val (.ref r),l1] (.ref r::st) H Q:=w_x (dc (.aload_n 0,1)) rfl
theorem m13_51 : M13 51 ls (.ref (b + 1)::st) (put (b + 1) e s A g) Q = M13 54 ls (.ref ((b + 1) + 6)::st) (put (b + 1) e s A g) Q:=w_get (dc (.getfield 25,3)) gf_25 put_o rfl
theorem m13_54 : M13 54 [l0,.val (.int v)] st H Q = M13 55 [l0,.val (.int v)] (.int v::st) H Q:=w_x (dc (.iload_n 1,1)) rfl
theorem m13_55  : M13 55 ls (.int j::.ref ((b + 1) + 6)::st) (put (b + 1) e s A g) Q = (inB j (A 5)∧M13 56 ls (.int (getA (A 5) j)::st) (put (b + 1) e s A g) Q):=w_ild (dc (.iaload,1)) rfl put_a5
theorem m13_56 : M13 56 [.val (.ref r),l1] st H Q = M13 57 [.val (.ref r),l1] (.ref r::st) H Q:=w_x (dc (.aload_n 0,1)) rfl
theorem m13_57 : M13 57 ls (.ref (b + 1)::st) (put (b + 1) e s A g) Q = M13 60 ls (.ref ((b + 1) + 14)::st) (put (b + 1) e s A g) Q:=w_get (dc (.getfield 50,3)) gf_50 put_o rfl
theorem m13_60 : M13 60 [.val (.ref r),l1] st H Q = M13 61 [.val (.ref r),l1] (.ref r::st) H Q:=w_x (dc (.aload_n 0,1)) rfl
theorem m13_61 : M13 61 ls (.ref (b + 1)::st) (put (b + 1) e s A g) Q = M13 64 ls (.ref ((b + 1) + 5)::st) (put (b + 1) e s A g) Q:=w_get (dc (.getfield 22,3)) gf_22 put_o rfl
theorem m13_64 : M13 64 [l0,.val (.int v)] st H Q = M13 65 [l0,.val (.int v)] (.int v::st) H Q:=w_x (dc (.iload_n 1,1)) rfl
theorem m13_65  : M13 65 ls (.int j::.ref ((b + 1) + 5)::st) (put (b + 1) e s A g) Q = (inB j (A 4)∧M13 66 ls (.int (getA (A 4) j)::st) (put (b + 1) e s A g) Q):=w_ild (dc (.iaload,1)) rfl put_a4
theorem m13_66  : M13 66 ls (.int j::.ref ((b + 1) + 14)::st) (put (b + 1) e s A g) Q = (inB j (A 13)∧M13 67 ls (.int (getA (A 13) j)::st) (put (b + 1) e s A g) Q):=w_ild (dc (.iaload,1)) rfl put_a13
theorem m13_67 : M13 67 ls (.int y::.int x::st) H Q = M13 68 ls (.int (x + y)::st) H Q:=w_x (dc (.iadd,1)) rfl
theorem m13_68 : M13 68 [.val (.ref r),l1] st H Q = M13 69 [.val (.ref r),l1] (.ref r::st) H Q:=w_x (dc (.aload_n 0,1)) rfl
theorem m13_69 : M13 69 ls (.ref (b + 1)::st) (put (b + 1) e s A g) Q = M13 72 ls (.ref ((b + 1) + 14)::st) (put (b + 1) e s A g) Q:=w_get (dc (.getfield 50,3)) gf_50 put_o rfl
theorem m13_72 : M13 72 [.val (.ref r),l1] st H Q = M13 73 [.val (.ref r),l1] (.ref r::st) H Q:=w_x (dc (.aload_n 0,1)) rfl
theorem m13_73 : M13 73 ls (.ref (b + 1)::st) (put (b + 1) e s A g) Q = M13 76 ls (.ref ((b + 1) + 4)::st) (put (b + 1) e s A g) Q:=w_get (dc (.getfield 19,3)) gf_19 put_o rfl
theorem m13_76 : M13 76 [l0,.val (.int v)] st H Q = M13 77 [l0,.val (.int v)] (.int v::st) H Q:=w_x (dc (.iload_n 1,1)) rfl
theorem m13_77  : M13 77 ls (.int j::.ref ((b + 1) + 4)::st) (put (b + 1) e s A g) Q = (inB j (A 3)∧M13 78 ls (.int (getA (A 3) j)::st) (put (b + 1) e s A g) Q):=w_ild (dc (.iaload,1)) rfl put_a3
theorem m13_78  : M13 78 ls (.int j::.ref ((b + 1) + 14)::st) (put (b + 1) e s A g) Q = (inB j (A 13)∧M13 79 ls (.int (getA (A 13) j)::st) (put (b + 1) e s A g) Q):=w_ild (dc (.iaload,1)) rfl put_a13
theorem m13_79 : M13 79 ls (.int y::.int x::st) H Q = M13 80 ls (.int (x - y)::st) H Q:=w_x (dc (.isub,1)) rfl
theorem m13_80  : M13 80 ls (.int v::.int j::.ref ((b + 1) + 7)::st) (put (b + 1) e s A g) Q = (inB j (A 6)∧M13 81 ls st (put (b + 1) e s (ou A 6 (setA (A 6) j v)) g) Q):=w_ist (dc (.iastore,1)) rfl put_a6 (by omega) rfl put_w6
theorem m13_81 : M13 81 [l0,.val (.int v)] st H Q = M13 84 [l0,.val (.int (v + 1))] st H Q:=w_iinc (dc (.iinc 1 1,3)) rfl (by decide) rfl
theorem m13_84 : M13 84 ls st H Q = M13 37 ls st H Q:=w_x (dc (.goto (-47),3)) rfl
theorem m13_87 : M13 87 ls [] H Q = Q none H:=w_vret (dc (.return_,1)) rfl
theorem m14_0 : M14 0 [.val (.ref r)] st H Q = M14 1 [.val (.ref r)] (.ref r::st) H Q:=w_x (dc (.aload_n 0,1)) rfl
theorem m14_1 : M14 1 ls (.ref (b + 1)::st) (put (b + 1) e s A g) Q = M14 4 ls (.int (s 1)::st) (put (b + 1) e s A g) Q:=w_get (dc (.getfield 69,3)) gf_69 put_o rfl
theorem m14_4 : M14 4 ls (.int z::st) H Q = Q (some (.int z)) H:=w_iret (dc (.ireturn,1)) rfl
theorem m15_0 : M15 0 [.val (.ref r)] st H Q = M15 1 [.val (.ref r)] (.ref r::st) H Q:=w_x (dc (.aload_n 0,1)) rfl
theorem m15_1 : M15 1 ls (.ref (b + 1)::st) (put (b + 1) e s A g) Q = M15 4 ls (.int (s 4)::st) (put (b + 1) e s A g) Q:=w_get (dc (.getfield 78,3)) gf_78 put_o rfl
theorem m15_4 : M15 4 ls (.int x::st) H Q = if x = 0 then M15 7 ls st H Q else M15 10 ls st H Q:=w_ifN (dc (.ifCond .ne 6,3)) (z_ne x) rfl
theorem m15_7 : M15 7 ls st H Q = M15 9 ls (.int (-6)::st) H Q:=w_con (dc (.bipush (-6),2)) rfl (by decide)
theorem m15_9 : M15 9 ls (.int z::st) H Q = Q (some (.int z)) H:=w_iret (dc (.ireturn,1)) rfl
theorem m15_10 : M15 10 [.val (.ref r)] st H Q = M15 11 [.val (.ref r)] (.ref r::st) H Q:=w_x (dc (.aload_n 0,1)) rfl
theorem m15_11 : M15 11 ls (.ref (b + 1)::st) (put (b + 1) e s A g) Q = M15 14 ls (.int (s 6)::st) (put (b + 1) e s A g) Q:=w_get (dc (.getfield 93,3)) gf_93 put_o rfl
theorem m15_14 : M15 14 ls (.int z::st) H Q = Q (some (.int z)) H:=w_iret (dc (.ireturn,1)) rfl
theorem m16_0 : M16 0 [.val (.ref r)] st H Q = M16 1 [.val (.ref r)] (.ref r::st) H Q:=w_x (dc (.aload_n 0,1)) rfl
theorem m16_1 : M16 1 ls (.ref (b + 1)::st) (put (b + 1) e s A g) Q = M16 4 ls (.int (s 4)::st) (put (b + 1) e s A g) Q:=w_get (dc (.getfield 78,3)) gf_78 put_o rfl
theorem m16_4 : M16 4 ls (.int x::st) H Q = if x = 0 then M16 7 ls st H Q else M16 10 ls st H Q:=w_ifN (dc (.ifCond .ne 6,3)) (z_ne x) rfl
theorem m16_7 : M16 7 ls st H Q = M16 9 ls (.int (-6)::st) H Q:=w_con (dc (.bipush (-6),2)) rfl (by decide)
theorem m16_9 : M16 9 ls (.int z::st) H Q = Q (some (.int z)) H:=w_iret (dc (.ireturn,1)) rfl
theorem m16_10 : M16 10 [.val (.ref r)] st H Q = M16 11 [.val (.ref r)] (.ref r::st) H Q:=w_x (dc (.aload_n 0,1)) rfl
theorem m16_11 : M16 11 ls (.ref (b + 1)::st) (put (b + 1) e s A g) Q = M16 14 ls (.int (s 5)::st) (put (b + 1) e s A g) Q:=w_get (dc (.getfield 82,3)) gf_82 put_o rfl
theorem m16_14 : M16 14 ls (.int z::st) H Q = Q (some (.int z)) H:=w_iret (dc (.ireturn,1)) rfl
theorem m17_0 : M17 0 [.val (.ref r)] st H Q = M17 1 [.val (.ref r)] (.ref r::st) H Q:=w_x (dc (.aload_n 0,1)) rfl
theorem m17_1 : M17 1 ls (.ref (b + 1)::st) (put (b + 1) e s A g) Q = M17 4 ls (.int (s 4)::st) (put (b + 1) e s A g) Q:=w_get (dc (.getfield 78,3)) gf_78 put_o rfl
theorem m17_4 : M17 4 ls (.int x::st) H Q = if x = 0 then M17 7 ls st H Q else M17 10 ls st H Q:=w_ifN (dc (.ifCond .ne 6,3)) (z_ne x) rfl
theorem m17_7 : M17 7 ls st H Q = M17 9 ls (.int (-6)::st) H Q:=w_con (dc (.bipush (-6),2)) rfl (by decide)
theorem m17_9 : M17 9 ls (.int z::st) H Q = Q (some (.int z)) H:=w_iret (dc (.ireturn,1)) rfl
theorem m17_10 : M17 10 [.val (.ref r)] st H Q = M17 11 [.val (.ref r)] (.ref r::st) H Q:=w_x (dc (.aload_n 0,1)) rfl
theorem m17_11 : M17 11 ls (.ref (b + 1)::st) (put (b + 1) e s A g) Q = M17 14 ls (.int (s 7)::st) (put (b + 1) e s A g) Q:=w_get (dc (.getfield 109,3)) gf_109 put_o rfl
theorem m17_14 : M17 14 ls (.int z::st) H Q = Q (some (.int z)) H:=w_iret (dc (.ireturn,1)) rfl
theorem m18_0 : M18 0 [.val (.ref r),l1] st H Q = M18 1 [.val (.ref r),l1] (.ref r::st) H Q:=w_x (dc (.aload_n 0,1)) rfl
theorem m18_1 : M18 1 ls (.ref (b + 1)::st) (put (b + 1) e s A g) Q = M18 4 ls (.int (s 4)::st) (put (b + 1) e s A g) Q:=w_get (dc (.getfield 78,3)) gf_78 put_o rfl
theorem m18_4 : M18 4 ls (.int x::st) H Q = if x = 0 then M18 19 ls st H Q else M18 7 ls st H Q:=w_if (dc (.ifCond .eq 15,3)) (z_eq x) rfl
theorem m18_7 : M18 7 [l0,.val (.int v)] st H Q = M18 8 [l0,.val (.int v)] (.int v::st) H Q:=w_x (dc (.iload_n 1,1)) rfl
theorem m18_8 : M18 8 ls (.int x::st) H Q = if x < 0 then M18 19 ls st H Q else M18 11 ls st H Q:=w_if (dc (.ifCond .lt 11,3)) (z_lt x) rfl
theorem m18_11 : M18 11 [l0,.val (.int v)] st H Q = M18 12 [l0,.val (.int v)] (.int v::st) H Q:=w_x (dc (.iload_n 1,1)) rfl
theorem m18_12 : M18 12 [.val (.ref r),l1] st H Q = M18 13 [.val (.ref r),l1] (.ref r::st) H Q:=w_x (dc (.aload_n 0,1)) rfl
theorem m18_13 : M18 13 ls (.ref (b + 1)::st) (put (b + 1) e s A g) Q = M18 16 ls (.int (s 0)::st) (put (b + 1) e s A g) Q:=w_get (dc (.getfield 65,3)) gf_65 put_o rfl
theorem m18_16 : M18 16 ls (.int y::.int x::st) H Q = if x < y then M18 22 ls st H Q else M18 19 ls st H Q:=w_icmp (dc (.if_icmp .lt 6,3)) (i_lt x y) rfl
theorem m18_19 : M18 19 ls st H Q = M18 21 ls (.int (-2147483648)::st) H Q:=w_ldc (dc (.ldc 116,2)) (by decide +kernel)
theorem m18_21 : M18 21 ls (.int z::st) H Q = Q (some (.int z)) H:=w_iret (dc (.ireturn,1)) rfl
theorem m18_22 : M18 22 [.val (.ref r),l1] st H Q = M18 23 [.val (.ref r),l1] (.ref r::st) H Q:=w_x (dc (.aload_n 0,1)) rfl
theorem m18_23 : M18 23 ls (.ref (b + 1)::st) (put (b + 1) e s A g) Q = M18 26 ls (.ref ((b + 1) + 14)::st) (put (b + 1) e s A g) Q:=w_get (dc (.getfield 50,3)) gf_50 put_o rfl
theorem m18_26 : M18 26 [l0,.val (.int v)] st H Q = M18 27 [l0,.val (.int v)] (.int v::st) H Q:=w_x (dc (.iload_n 1,1)) rfl
theorem m18_27  : M18 27 ls (.int j::.ref ((b + 1) + 14)::st) (put (b + 1) e s A g) Q = (inB j (A 13)∧M18 28 ls (.int (getA (A 13) j)::st) (put (b + 1) e s A g) Q):=w_ild (dc (.iaload,1)) rfl put_a13
theorem m18_28 : M18 28 ls (.int z::st) H Q = Q (some (.int z)) H:=w_iret (dc (.ireturn,1)) rfl
theorem m19_0 : M19 0 [.val (.ref r),l1] st H Q = M19 1 [.val (.ref r),l1] (.ref r::st) H Q:=w_x (dc (.aload_n 0,1)) rfl
theorem m19_1 : M19 1 ls (.ref (b + 1)::st) (put (b + 1) e s A g) Q = M19 4 ls (.int (s 4)::st) (put (b + 1) e s A g) Q:=w_get (dc (.getfield 78,3)) gf_78 put_o rfl
theorem m19_4 : M19 4 ls (.int x::st) H Q = if x = 0 then M19 7 ls st H Q else M19 10 ls st H Q:=w_ifN (dc (.ifCond .ne 6,3)) (z_ne x) rfl
theorem m19_7 : M19 7 ls st H Q = M19 9 ls (.int (-6)::st) H Q:=w_con (dc (.bipush (-6),2)) rfl (by decide)
theorem m19_9 : M19 9 ls (.int z::st) H Q = Q (some (.int z)) H:=w_iret (dc (.ireturn,1)) rfl
theorem m19_10 : M19 10 [l0,.val (.int v)] st H Q = M19 11 [l0,.val (.int v)] (.int v::st) H Q:=w_x (dc (.iload_n 1,1)) rfl
theorem m19_11 : M19 11 ls (.int x::st) H Q = if x < 0 then M19 22 ls st H Q else M19 14 ls st H Q:=w_if (dc (.ifCond .lt 11,3)) (z_lt x) rfl
theorem m19_14 : M19 14 [l0,.val (.int v)] st H Q = M19 15 [l0,.val (.int v)] (.int v::st) H Q:=w_x (dc (.iload_n 1,1)) rfl
theorem m19_15 : M19 15 [.val (.ref r),l1] st H Q = M19 16 [.val (.ref r),l1] (.ref r::st) H Q:=w_x (dc (.aload_n 0,1)) rfl
theorem m19_16 : M19 16 ls (.ref (b + 1)::st) (put (b + 1) e s A g) Q = M19 19 ls (.int (s 1)::st) (put (b + 1) e s A g) Q:=w_get (dc (.getfield 69,3)) gf_69 put_o rfl
theorem m19_19 : M19 19 ls (.int y::.int x::st) H Q = if x < y then M19 25 ls st H Q else M19 22 ls st H Q:=w_icmp (dc (.if_icmp .lt 6,3)) (i_lt x y) rfl
theorem m19_22 : M19 22 ls st H Q = M19 24 ls (.int (-2)::st) H Q:=w_con (dc (.bipush (-2),2)) rfl (by decide)
theorem m19_24 : M19 24 ls (.int z::st) H Q = Q (some (.int z)) H:=w_iret (dc (.ireturn,1)) rfl
theorem m19_25 : M19 25 [.val (.ref r),l1] st H Q = M19 26 [.val (.ref r),l1] (.ref r::st) H Q:=w_x (dc (.aload_n 0,1)) rfl
theorem m19_26 : M19 26 ls (.ref (b + 1)::st) (put (b + 1) e s A g) Q = M19 29 ls (.ref ((b + 1) + 7)::st) (put (b + 1) e s A g) Q:=w_get (dc (.getfield 28,3)) gf_28 put_o rfl
theorem m19_29 : M19 29 [l0,.val (.int v)] st H Q = M19 30 [l0,.val (.int v)] (.int v::st) H Q:=w_x (dc (.iload_n 1,1)) rfl
theorem m19_30  : M19 30 ls (.int j::.ref ((b + 1) + 7)::st) (put (b + 1) e s A g) Q = (inB j (A 6)∧M19 31 ls (.int (getA (A 6) j)::st) (put (b + 1) e s A g) Q):=w_ild (dc (.iaload,1)) rfl put_a6
theorem m19_31 : M19 31 ls (.int z::st) H Q = Q (some (.int z)) H:=w_iret (dc (.ireturn,1)) rfl
theorem m20_0 : M20 0 [.val (.ref r),l1,l2,l3] st H Q = M20 1 [.val (.ref r),l1,l2,l3] (.ref r::st) H Q:=w_x (dc (.aload_n 0,1)) rfl
theorem m20_1 : M20 1 [l0,.val (.int v),l2,l3] st H Q = M20 2 [l0,.val (.int v),l2,l3] (.int v::st) H Q:=w_x (dc (.iload_n 1,1)) rfl
theorem m20_2 : M20 2 [l0,l1,.val (.int v),l3] st H Q = M20 3 [l0,l1,.val (.int v),l3] (.int v::st) H Q:=w_x (dc (.iload_n 2,1)) rfl
theorem cr20_112 : vR tables_1 dn y20 112 = some (true,y21,prog_1_method_18_code,3,(some .int),2,0):=pR_of (cR_of (by decide +kernel) rc_21 dn_21 dn_20 (sig:=⟨[.int,.int],some .int⟩) (by decide +kernel) (by decide +kernel) rfl rfl) (by decide +kernel) (by decide +kernel)
theorem m20_3 (a0 : Int32) (a1 : Int32) : M20 3 ls [.int a1,.int a0,.ref (b + 1)] (put (b + 1) e s A g) Q = M21 0 [.val (.ref (b + 1)),.val (.int a0),.val (.int a1)] [] (put (b + 1) e s A g) (fun v H1 => M20 6 ls (v.toList ++ []) H1 Q):=w_virt (as:=[.int a1,.int a0]) (rest:=[]) (a:=(b + 1)) (dc (.invokevirtual 112,3)) cr20_112 put_o rfl rfl (Nat.le_of_ble_eq_true rfl) (by show 3≤3; omega) rfl
theorem m20_6u : M20 6 [l0,l1,l2,.unset] ((.int v)::st) H Q = M20 7 [l0,l1,l2,.val (.int v)] st H Q:=w_st (i:=3) (p:=isI) (dc (.istore_n 3,1)) rfl rfl rfl rfl rfl rfl
theorem m20_7 : M20 7 [l0,l1,l2,.val (.int v)] st H Q = M20 8 [l0,l1,l2,.val (.int v)] (.int v::st) H Q:=w_x (dc (.iload_n 3,1)) rfl
theorem m20_8 : M20 8 ls (.int x::st) H Q = if x = 0 then M20 13 ls st H Q else M20 11 ls st H Q:=w_if (dc (.ifCond .eq 5,3)) (z_eq x) rfl
theorem m20_11 : M20 11 [l0,l1,l2,.val (.int v)] st H Q = M20 12 [l0,l1,l2,.val (.int v)] (.int v::st) H Q:=w_x (dc (.iload_n 3,1)) rfl
theorem m20_12 : M20 12 ls (.int z::st) H Q = Q (some (.int z)) H:=w_iret (dc (.ireturn,1)) rfl
theorem m20_13 : M20 13 [.val (.ref r),l1,l2,l3] st H Q = M20 14 [.val (.ref r),l1,l2,l3] (.ref r::st) H Q:=w_x (dc (.aload_n 0,1)) rfl
theorem m20_14 : M20 14 ls (.ref (b + 1)::st) (put (b + 1) e s A g) Q = M20 17 ls (.ref ((b + 1) + 10)::st) (put (b + 1) e s A g) Q:=w_get (dc (.getfield 37,3)) gf_37 put_o rfl
theorem m20_17 : M20 17 [l0,.val (.int v),l2,l3] st H Q = M20 18 [l0,.val (.int v),l2,l3] (.int v::st) H Q:=w_x (dc (.iload_n 1,1)) rfl
theorem m20_18 : M20 18 ls st H Q = M20 20 ls (.int 32::st) H Q:=w_con (dc (.bipush 32,2)) rfl (by decide)
theorem m20_20 : M20 20 ls (.int y::.int x::st) H Q = M20 21 ls (.int (x * y)::st) H Q:=w_x (dc (.imul,1)) rfl
theorem m20_21 : M20 21 [l0,l1,.val (.int v),l3] st H Q = M20 22 [l0,l1,.val (.int v),l3] (.int v::st) H Q:=w_x (dc (.iload_n 2,1)) rfl
theorem m20_22 : M20 22 ls (.int y::.int x::st) H Q = M20 23 ls (.int (x + y)::st) H Q:=w_x (dc (.iadd,1)) rfl
theorem m20_23  : M20 23 ls (.int j::.ref ((b + 1) + 10)::st) (put (b + 1) e s A g) Q = (inB j (A 9)∧M20 24 ls (.int (getA (A 9) j)::st) (put (b + 1) e s A g) Q):=w_ild (dc (.iaload,1)) rfl put_a9
theorem m20_24 : M20 24 ls (.int z::st) H Q = Q (some (.int z)) H:=w_iret (dc (.ireturn,1)) rfl
theorem m21_0 : M21 0 [.val (.ref r),l1,l2] st H Q = M21 1 [.val (.ref r),l1,l2] (.ref r::st) H Q:=w_x (dc (.aload_n 0,1)) rfl
theorem m21_1 : M21 1 ls (.ref (b + 1)::st) (put (b + 1) e s A g) Q = M21 4 ls (.int (s 4)::st) (put (b + 1) e s A g) Q:=w_get (dc (.getfield 78,3)) gf_78 put_o rfl
theorem m21_4 : M21 4 ls (.int x::st) H Q = if x = 0 then M21 7 ls st H Q else M21 10 ls st H Q:=w_ifN (dc (.ifCond .ne 6,3)) (z_ne x) rfl
theorem m21_7 : M21 7 ls st H Q = M21 9 ls (.int (-6)::st) H Q:=w_con (dc (.bipush (-6),2)) rfl (by decide)
theorem m21_9 : M21 9 ls (.int z::st) H Q = Q (some (.int z)) H:=w_iret (dc (.ireturn,1)) rfl
theorem m21_10 : M21 10 [l0,.val (.int v),l2] st H Q = M21 11 [l0,.val (.int v),l2] (.int v::st) H Q:=w_x (dc (.iload_n 1,1)) rfl
theorem m21_11 : M21 11 ls (.int x::st) H Q = if x < 0 then M21 34 ls st H Q else M21 14 ls st H Q:=w_if (dc (.ifCond .lt 23,3)) (z_lt x) rfl
theorem m21_14 : M21 14 [l0,.val (.int v),l2] st H Q = M21 15 [l0,.val (.int v),l2] (.int v::st) H Q:=w_x (dc (.iload_n 1,1)) rfl
theorem m21_15 : M21 15 [.val (.ref r),l1,l2] st H Q = M21 16 [.val (.ref r),l1,l2] (.ref r::st) H Q:=w_x (dc (.aload_n 0,1)) rfl
theorem m21_16 : M21 16 ls (.ref (b + 1)::st) (put (b + 1) e s A g) Q = M21 19 ls (.int (s 0)::st) (put (b + 1) e s A g) Q:=w_get (dc (.getfield 65,3)) gf_65 put_o rfl
theorem m21_19 : M21 19 ls (.int y::.int x::st) H Q = if x < y then M21 22 ls st H Q else M21 34 ls st H Q:=w_icmpN (dc (.if_icmp .ge 15,3)) (i_ge x y) rfl
theorem m21_22 : M21 22 [l0,l1,.val (.int v)] st H Q = M21 23 [l0,l1,.val (.int v)] (.int v::st) H Q:=w_x (dc (.iload_n 2,1)) rfl
theorem m21_23 : M21 23 ls (.int x::st) H Q = if x < 0 then M21 34 ls st H Q else M21 26 ls st H Q:=w_if (dc (.ifCond .lt 11,3)) (z_lt x) rfl
theorem m21_26 : M21 26 [l0,l1,.val (.int v)] st H Q = M21 27 [l0,l1,.val (.int v)] (.int v::st) H Q:=w_x (dc (.iload_n 2,1)) rfl
theorem m21_27 : M21 27 [.val (.ref r),l1,l2] st H Q = M21 28 [.val (.ref r),l1,l2] (.ref r::st) H Q:=w_x (dc (.aload_n 0,1)) rfl
theorem m21_28 : M21 28 ls (.ref (b + 1)::st) (put (b + 1) e s A g) Q = M21 31 ls (.int (s 0)::st) (put (b + 1) e s A g) Q:=w_get (dc (.getfield 65,3)) gf_65 put_o rfl
theorem m21_31 : M21 31 ls (.int y::.int x::st) H Q = if x < y then M21 37 ls st H Q else M21 34 ls st H Q:=w_icmp (dc (.if_icmp .lt 6,3)) (i_lt x y) rfl
theorem m21_34 : M21 34 ls st H Q = M21 36 ls (.int (-2)::st) H Q:=w_con (dc (.bipush (-2),2)) rfl (by decide)
theorem m21_36 : M21 36 ls (.int z::st) H Q = Q (some (.int z)) H:=w_iret (dc (.ireturn,1)) rfl
theorem m21_37 : M21 37 [.val (.ref r),l1,l2] st H Q = M21 38 [.val (.ref r),l1,l2] (.ref r::st) H Q:=w_x (dc (.aload_n 0,1)) rfl
theorem m21_38 : M21 38 ls (.ref (b + 1)::st) (put (b + 1) e s A g) Q = M21 41 ls (.ref ((b + 1) + 12)::st) (put (b + 1) e s A g) Q:=w_get (dc (.getfield 43,3)) gf_43 put_o rfl
theorem m21_41 : M21 41 [l0,.val (.int v),l2] st H Q = M21 42 [l0,.val (.int v),l2] (.int v::st) H Q:=w_x (dc (.iload_n 1,1)) rfl
theorem m21_42 : M21 42 ls st H Q = M21 44 ls (.int 32::st) H Q:=w_con (dc (.bipush 32,2)) rfl (by decide)
theorem m21_44 : M21 44 ls (.int y::.int x::st) H Q = M21 45 ls (.int (x * y)::st) H Q:=w_x (dc (.imul,1)) rfl
theorem m21_45 : M21 45 [l0,l1,.val (.int v)] st H Q = M21 46 [l0,l1,.val (.int v)] (.int v::st) H Q:=w_x (dc (.iload_n 2,1)) rfl
theorem m21_46 : M21 46 ls (.int y::.int x::st) H Q = M21 47 ls (.int (x + y)::st) H Q:=w_x (dc (.iadd,1)) rfl
theorem m21_47  : M21 47 ls (.int j::.ref ((b + 1) + 12)::st) (put (b + 1) e s A g) Q = (inB j (A 11)∧M21 48 ls (.int (getA (A 11) j)::st) (put (b + 1) e s A g) Q):=w_ild (dc (.baload,1)) rfl put_a11
theorem m21_48 : M21 48 ls (.int x::st) H Q = if x = 0 then M21 51 ls st H Q else M21 53 ls st H Q:=w_ifN (dc (.ifCond .ne 5,3)) (z_ne x) rfl
theorem m21_51 : M21 51 ls st H Q = M21 52 ls (.int (-1)::st) H Q:=w_con (dc (.iconst (-1),1)) rfl (by decide)
theorem m21_52 : M21 52 ls (.int z::st) H Q = Q (some (.int z)) H:=w_iret (dc (.ireturn,1)) rfl
theorem m21_53 : M21 53 ls st H Q = M21 54 ls (.int 0::st) H Q:=w_con (dc (.iconst 0,1)) rfl (by decide)
theorem m21_54 : M21 54 ls (.int z::st) H Q = Q (some (.int z)) H:=w_iret (dc (.ireturn,1)) rfl
theorem m22_0 : M22 0 [.val (.ref r),l1,l2,l3] st H Q = M22 1 [.val (.ref r),l1,l2,l3] (.ref r::st) H Q:=w_x (dc (.aload_n 0,1)) rfl
theorem m22_1 : M22 1 [l0,.val (.int v),l2,l3] st H Q = M22 2 [l0,.val (.int v),l2,l3] (.int v::st) H Q:=w_x (dc (.iload_n 1,1)) rfl
theorem m22_2 : M22 2 [l0,l1,.val (.int v),l3] st H Q = M22 3 [l0,l1,.val (.int v),l3] (.int v::st) H Q:=w_x (dc (.iload_n 2,1)) rfl
theorem cr22_112 : vR tables_1 dn y22 112 = some (true,y21,prog_1_method_18_code,3,(some .int),2,0):=pR_of (cR_of (by decide +kernel) rc_21 dn_21 dn_22 (sig:=⟨[.int,.int],some .int⟩) (by decide +kernel) (by decide +kernel) rfl rfl) (by decide +kernel) (by decide +kernel)
theorem m22_3 (a0 : Int32) (a1 : Int32) : M22 3 ls [.int a1,.int a0,.ref (b + 1)] (put (b + 1) e s A g) Q = M21 0 [.val (.ref (b + 1)),.val (.int a0),.val (.int a1)] [] (put (b + 1) e s A g) (fun v H1 => M22 6 ls (v.toList ++ []) H1 Q):=w_virt (as:=[.int a1,.int a0]) (rest:=[]) (a:=(b + 1)) (dc (.invokevirtual 112,3)) cr22_112 put_o rfl rfl (Nat.le_of_ble_eq_true rfl) (by show 3≤3; omega) rfl
theorem m22_6u : M22 6 [l0,l1,l2,.unset] ((.int v)::st) H Q = M22 7 [l0,l1,l2,.val (.int v)] st H Q:=w_st (i:=3) (p:=isI) (dc (.istore_n 3,1)) rfl rfl rfl rfl rfl rfl
theorem m22_7 : M22 7 [l0,l1,l2,.val (.int v)] st H Q = M22 8 [l0,l1,l2,.val (.int v)] (.int v::st) H Q:=w_x (dc (.iload_n 3,1)) rfl
theorem m22_8 : M22 8 ls (.int x::st) H Q = if x = 0 then M22 13 ls st H Q else M22 11 ls st H Q:=w_if (dc (.ifCond .eq 5,3)) (z_eq x) rfl
theorem m22_11 : M22 11 [l0,l1,l2,.val (.int v)] st H Q = M22 12 [l0,l1,l2,.val (.int v)] (.int v::st) H Q:=w_x (dc (.iload_n 3,1)) rfl
theorem m22_12 : M22 12 ls (.int z::st) H Q = Q (some (.int z)) H:=w_iret (dc (.ireturn,1)) rfl
theorem m22_13 : M22 13 [.val (.ref r),l1,l2,l3] st H Q = M22 14 [.val (.ref r),l1,l2,l3] (.ref r::st) H Q:=w_x (dc (.aload_n 0,1)) rfl
theorem m22_14 : M22 14 ls (.ref (b + 1)::st) (put (b + 1) e s A g) Q = M22 17 ls (.ref ((b + 1) + 11)::st) (put (b + 1) e s A g) Q:=w_get (dc (.getfield 40,3)) gf_40 put_o rfl
theorem m22_17 : M22 17 [l0,.val (.int v),l2,l3] st H Q = M22 18 [l0,.val (.int v),l2,l3] (.int v::st) H Q:=w_x (dc (.iload_n 1,1)) rfl
theorem m22_18 : M22 18 ls st H Q = M22 20 ls (.int 32::st) H Q:=w_con (dc (.bipush 32,2)) rfl (by decide)
theorem m22_20 : M22 20 ls (.int y::.int x::st) H Q = M22 21 ls (.int (x * y)::st) H Q:=w_x (dc (.imul,1)) rfl
theorem m22_21 : M22 21 [l0,l1,.val (.int v),l3] st H Q = M22 22 [l0,l1,.val (.int v),l3] (.int v::st) H Q:=w_x (dc (.iload_n 2,1)) rfl
theorem m22_22 : M22 22 ls (.int y::.int x::st) H Q = M22 23 ls (.int (x + y)::st) H Q:=w_x (dc (.iadd,1)) rfl
theorem m22_23  : M22 23 ls (.int j::.ref ((b + 1) + 11)::st) (put (b + 1) e s A g) Q = (inB j (A 10)∧M22 24 ls (.int (getA (A 10) j)::st) (put (b + 1) e s A g) Q):=w_ild (dc (.iaload,1)) rfl put_a10
theorem m22_24 : M22 24 [.val (.ref r),l1,l2,l3] st H Q = M22 25 [.val (.ref r),l1,l2,l3] (.ref r::st) H Q:=w_x (dc (.aload_n 0,1)) rfl
theorem m22_25 : M22 25 ls (.ref (b + 1)::st) (put (b + 1) e s A g) Q = M22 28 ls (.ref ((b + 1) + 2)::st) (put (b + 1) e s A g) Q:=w_get (dc (.getfield 13,3)) gf_13 put_o rfl
theorem m22_28 : M22 28 [l0,l1,.val (.int v),l3] st H Q = M22 29 [l0,l1,.val (.int v),l3] (.int v::st) H Q:=w_x (dc (.iload_n 2,1)) rfl
theorem m22_29  : M22 29 ls (.int j::.ref ((b + 1) + 2)::st) (put (b + 1) e s A g) Q = (inB j (A 1)∧M22 30 ls (.int (getA (A 1) j)::st) (put (b + 1) e s A g) Q):=w_ild (dc (.iaload,1)) rfl put_a1
theorem m22_30 : M22 30 ls (.int y::.int x::st) H Q = M22 31 ls (.int (x + y)::st) H Q:=w_x (dc (.iadd,1)) rfl
theorem m22_31 : M22 31 ls (.int z::st) H Q = Q (some (.int z)) H:=w_iret (dc (.ireturn,1)) rfl
theorem m23_0 : M23 0 [l0,.val (.int v)] st H Q = M23 1 [l0,.val (.int v)] (.int v::st) H Q:=w_x (dc (.iload_n 1,1)) rfl
theorem m23_1 : M23 1 [.val (.ref r),l1] st H Q = M23 2 [.val (.ref r),l1] (.ref r::st) H Q:=w_x (dc (.aload_n 0,1)) rfl
theorem m23_2 : M23 2 ls (.ref 0::st) ((.array .int,sc.map Value.int)::R) Q = M23 3 ls (.int sc.length.toInt32::st) ((.array .int,sc.map Value.int)::R) Q:=by exact (w_len (dc (.arraylength,1)) rfl).trans (by rw [List.length_map]; rfl)
theorem m23_2p : M23 2 ls (.ref 0::st) (put (b + 1) ((.array .int,sc.map Value.int)::pre) s A post) Q = M23 3 ls (.int sc.length.toInt32::st) (put (b + 1) ((.array .int,sc.map Value.int)::pre) s A post) Q:=by exact (w_len (dc (.arraylength,1)) rfl).trans (by rw [List.length_map]; rfl)
theorem m23_3 : M23 3 ls (.int y::.int x::st) H Q = if x < y then M23 6 ls st H Q else M23 12 ls st H Q:=w_icmpN (dc (.if_icmp .ge 9,3)) (i_ge x y) rfl
theorem m23_6 : M23 6 [.val (.ref r),l1] st H Q = M23 7 [.val (.ref r),l1] (.ref r::st) H Q:=w_x (dc (.aload_n 0,1)) rfl
theorem m23_7 : M23 7 [l0,.val (.int v)] st H Q = M23 8 [l0,.val (.int v)] (.int v::st) H Q:=w_x (dc (.iload_n 1,1)) rfl
theorem m23_8 : M23 8 ls (.int j::.ref 0::st) ((.array .int,sc.map Value.int)::R) Q = (inB j sc∧M23 9 ls (.int (getA sc j)::st) ((.array .int,sc.map Value.int)::R) Q):=w_ild (dc (.iaload,1)) rfl rfl
theorem m23_8p : M23 8 ls (.int j::.ref 0::st) (put (b + 1) ((.array .int,sc.map Value.int)::pre) s A post) Q = (inB j sc∧M23 9 ls (.int (getA sc j)::st) (put (b + 1) ((.array .int,sc.map Value.int)::pre) s A post) Q):=w_ild (dc (.iaload,1)) rfl rfl
theorem m23_9 : M23 9 ls st H Q = M23 13 ls st H Q:=w_x (dc (.goto 4,3)) rfl
theorem m23_12 : M23 12 ls st H Q = M23 13 ls (.int 0::st) H Q:=w_con (dc (.iconst 0,1)) rfl (by decide)
theorem m23_13 : M23 13 ls (.int z::st) H Q = Q (some (.int z)) H:=w_iret (dc (.ireturn,1)) rfl
theorem m24_0 : M24 0 [.val (.int v),l1,l2] st H Q = M24 1 [.val (.int v),l1,l2] (.int v::st) H Q:=w_x (dc (.iload_n 0,1)) rfl
theorem m24_1 : M24 1 [l0,.val (.int v),l2] st H Q = M24 2 [l0,.val (.int v),l2] (.int v::st) H Q:=w_x (dc (.iload_n 1,1)) rfl
theorem m24_2 : M24 2 ls (.int y::.int x::st) H Q = (y ≠ 0∧M24 3 ls (.int (x % y)::st) H Q):=w_div (f:=fun x y => x % y) (dc (.irem,1)) (fun _ => rfl) rfl rfl
theorem m24_3u : M24 3 [l0,l1,.unset] ((.int v)::st) H Q = M24 4 [l0,l1,.val (.int v)] st H Q:=w_st (i:=2) (p:=isI) (dc (.istore_n 2,1)) rfl rfl rfl rfl rfl rfl
theorem m24_4 : M24 4 [l0,l1,.val (.int v)] st H Q = M24 5 [l0,l1,.val (.int v)] (.int v::st) H Q:=w_x (dc (.iload_n 2,1)) rfl
theorem m24_5 : M24 5 ls (.int x::st) H Q = if x < 0 then M24 8 ls st H Q else M24 14 ls st H Q:=w_ifN (dc (.ifCond .ge 9,3)) (z_ge x) rfl
theorem m24_8 : M24 8 [l0,l1,.val (.int v)] st H Q = M24 9 [l0,l1,.val (.int v)] (.int v::st) H Q:=w_x (dc (.iload_n 2,1)) rfl
theorem m24_9 : M24 9 [l0,.val (.int v),l2] st H Q = M24 10 [l0,.val (.int v),l2] (.int v::st) H Q:=w_x (dc (.iload_n 1,1)) rfl
theorem m24_10 : M24 10 ls (.int y::.int x::st) H Q = M24 11 ls (.int (x + y)::st) H Q:=w_x (dc (.iadd,1)) rfl
theorem m24_11 : M24 11 ls st H Q = M24 15 ls st H Q:=w_x (dc (.goto 4,3)) rfl
theorem m24_14 : M24 14 [l0,l1,.val (.int v)] st H Q = M24 15 [l0,l1,.val (.int v)] (.int v::st) H Q:=w_x (dc (.iload_n 2,1)) rfl
theorem m24_15 : M24 15 ls (.int z::st) H Q = Q (some (.int z)) H:=w_iret (dc (.ireturn,1)) rfl
theorem m25_0 : M25 0 [.val (.ref r),l1] st H Q = M25 1 [.val (.ref r),l1] (.ref r::st) H Q:=w_x (dc (.aload_n 0,1)) rfl
theorem m25_1 : M25 1 ls st H Q = M25 2 ls (.int 2::st) H Q:=w_con (dc (.iconst 2,1)) rfl (by decide)
theorem m25_2 : M25 2 ls st H Q = M25 3 ls (.int 3::st) H Q:=w_con (dc (.iconst 3,1)) rfl (by decide)
theorem m25_3 : M25 3 [l0,.val (.int v)] st H Q = M25 4 [l0,.val (.int v)] (.int v::st) H Q:=w_x (dc (.iload_n 1,1)) rfl
theorem m25_4 : M25 4 ls (.int y::.int x::st) H Q = M25 5 ls (.int (x * y)::st) H Q:=w_x (dc (.imul,1)) rfl
theorem m25_5 : M25 5 ls (.int y::.int x::st) H Q = M25 6 ls (.int (x + y)::st) H Q:=w_x (dc (.iadd,1)) rfl
theorem cr25_7 : sR tables_1 dn y25 7 = some (y23,method_2_code,2,(some .int),2,1):=sR_of (cR_of (by decide +kernel) rc_23 dn_23 dn_25 (sig:=⟨[.array .int,.int],some .int⟩) (by decide +kernel) (by decide +kernel) rfl rfl) (by decide +kernel)
theorem m25_6 (a0 : Nat) (a1 : Int32) : M25 6 ls [.int a1,.ref a0] H Q = M23 0 [.val (.ref a0),.val (.int a1)] [] H (fun v H1 => M25 9 ls (v.toList ++ []) H1 Q):=w_stat (as:=[.int a1,.ref a0]) (rest:=[]) (dc (.invokestatic 7,3)) cr25_7 rfl (Nat.le_of_ble_eq_true rfl) (by show 2≤2; omega) rfl
theorem m25_9 : M25 9 ls st H Q = M25 11 ls (.int 16::st) H Q:=w_con (dc (.bipush 16,2)) rfl (by decide)
theorem cr25_13 : sR tables_1 dn y25 13 = some (y24,method_3_code,3,(some .int),2,0):=sR_of (cR_of (by decide +kernel) rc_24 dn_24 dn_25 (sig:=⟨[.int,.int],some .int⟩) (by decide +kernel) (by decide +kernel) rfl rfl) (by decide +kernel)
theorem m25_11 (a0 : Int32) (a1 : Int32) : M25 11 ls [.int a1,.int a0] H Q = M24 0 [.val (.int a0),.val (.int a1),.unset] [] H (fun v H1 => M25 14 ls (v.toList ++ []) H1 Q):=w_stat (as:=[.int a1,.int a0]) (rest:=[]) (dc (.invokestatic 13,3)) cr25_13 rfl (Nat.le_of_ble_eq_true rfl) (by show 2≤3; omega) rfl
theorem m25_14 : M25 14 ls (.int z::st) H Q = Q (some (.int z)) H:=w_iret (dc (.ireturn,1)) rfl
theorem m26_0 : M26 0 [.val (.ref r),l1,l2] st H Q = M26 1 [.val (.ref r),l1,l2] (.ref r::st) H Q:=w_x (dc (.aload_n 0,1)) rfl
theorem m26_1 : M26 1 ls st H Q = M26 3 ls (.int 17::st) H Q:=w_con (dc (.bipush 17,2)) rfl (by decide)
theorem m26_3 : M26 3 ls st H Q = M26 4 ls (.int 3::st) H Q:=w_con (dc (.iconst 3,1)) rfl (by decide)
theorem m26_4 : M26 4 [l0,l1,.val (.int v)] st H Q = M26 5 [l0,l1,.val (.int v)] (.int v::st) H Q:=w_x (dc (.iload_n 2,1)) rfl
theorem m26_5 : M26 5 ls (.int y::.int x::st) H Q = M26 6 ls (.int (x * y)::st) H Q:=w_x (dc (.imul,1)) rfl
theorem m26_6 : M26 6 ls (.int y::.int x::st) H Q = M26 7 ls (.int (x + y)::st) H Q:=w_x (dc (.iadd,1)) rfl
theorem cr26_7 : sR tables_1 dn y26 7 = some (y23,method_2_code,2,(some .int),2,1):=sR_of (cR_of (by decide +kernel) rc_23 dn_23 dn_26 (sig:=⟨[.array .int,.int],some .int⟩) (by decide +kernel) (by decide +kernel) rfl rfl) (by decide +kernel)
theorem m26_7 (a0 : Nat) (a1 : Int32) : M26 7 ls [.int a1,.ref a0] H Q = M23 0 [.val (.ref a0),.val (.int a1)] [] H (fun v H1 => M26 10 ls (v.toList ++ []) H1 Q):=w_stat (as:=[.int a1,.ref a0]) (rest:=[]) (dc (.invokestatic 7,3)) cr26_7 rfl (Nat.le_of_ble_eq_true rfl) (by show 2≤2; omega) rfl
theorem m26_10 : M26 10 [l0,.val (.int v),l2] st H Q = M26 11 [l0,.val (.int v),l2] (.int v::st) H Q:=w_x (dc (.iload_n 1,1)) rfl
theorem cr26_13 : sR tables_1 dn y26 13 = some (y24,method_3_code,3,(some .int),2,0):=sR_of (cR_of (by decide +kernel) rc_24 dn_24 dn_26 (sig:=⟨[.int,.int],some .int⟩) (by decide +kernel) (by decide +kernel) rfl rfl) (by decide +kernel)
theorem m26_11 (a0 : Int32) (a1 : Int32) : M26 11 ls [.int a1,.int a0] H Q = M24 0 [.val (.int a0),.val (.int a1),.unset] [] H (fun v H1 => M26 14 ls (v.toList ++ []) H1 Q):=w_stat (as:=[.int a1,.int a0]) (rest:=[]) (dc (.invokestatic 13,3)) cr26_13 rfl (Nat.le_of_ble_eq_true rfl) (by show 2≤3; omega) rfl
theorem m26_14 : M26 14 ls (.int z::st) H Q = Q (some (.int z)) H:=w_iret (dc (.ireturn,1)) rfl
theorem m27_0 : M27 0 [.val (.ref r),l1,l2] st H Q = M27 1 [.val (.ref r),l1,l2] (.ref r::st) H Q:=w_x (dc (.aload_n 0,1)) rfl
theorem m27_1 : M27 1 ls st H Q = M27 3 ls (.int 18::st) H Q:=w_con (dc (.bipush 18,2)) rfl (by decide)
theorem m27_3 : M27 3 ls st H Q = M27 4 ls (.int 3::st) H Q:=w_con (dc (.iconst 3,1)) rfl (by decide)
theorem m27_4 : M27 4 [l0,l1,.val (.int v)] st H Q = M27 5 [l0,l1,.val (.int v)] (.int v::st) H Q:=w_x (dc (.iload_n 2,1)) rfl
theorem m27_5 : M27 5 ls (.int y::.int x::st) H Q = M27 6 ls (.int (x * y)::st) H Q:=w_x (dc (.imul,1)) rfl
theorem m27_6 : M27 6 ls (.int y::.int x::st) H Q = M27 7 ls (.int (x + y)::st) H Q:=w_x (dc (.iadd,1)) rfl
theorem cr27_7 : sR tables_1 dn y27 7 = some (y23,method_2_code,2,(some .int),2,1):=sR_of (cR_of (by decide +kernel) rc_23 dn_23 dn_27 (sig:=⟨[.array .int,.int],some .int⟩) (by decide +kernel) (by decide +kernel) rfl rfl) (by decide +kernel)
theorem m27_7 (a0 : Nat) (a1 : Int32) : M27 7 ls [.int a1,.ref a0] H Q = M23 0 [.val (.ref a0),.val (.int a1)] [] H (fun v H1 => M27 10 ls (v.toList ++ []) H1 Q):=w_stat (as:=[.int a1,.ref a0]) (rest:=[]) (dc (.invokestatic 7,3)) cr27_7 rfl (Nat.le_of_ble_eq_true rfl) (by show 2≤2; omega) rfl
theorem m27_10 : M27 10 [l0,.val (.int v),l2] st H Q = M27 11 [l0,.val (.int v),l2] (.int v::st) H Q:=w_x (dc (.iload_n 1,1)) rfl
theorem cr27_13 : sR tables_1 dn y27 13 = some (y24,method_3_code,3,(some .int),2,0):=sR_of (cR_of (by decide +kernel) rc_24 dn_24 dn_27 (sig:=⟨[.int,.int],some .int⟩) (by decide +kernel) (by decide +kernel) rfl rfl) (by decide +kernel)
theorem m27_11 (a0 : Int32) (a1 : Int32) : M27 11 ls [.int a1,.int a0] H Q = M24 0 [.val (.int a0),.val (.int a1),.unset] [] H (fun v H1 => M27 14 ls (v.toList ++ []) H1 Q):=w_stat (as:=[.int a1,.int a0]) (rest:=[]) (dc (.invokestatic 13,3)) cr27_13 rfl (Nat.le_of_ble_eq_true rfl) (by show 2≤3; omega) rfl
theorem m27_14 : M27 14 ls (.int z::st) H Q = Q (some (.int z)) H:=w_iret (dc (.ireturn,1)) rfl
theorem m28_0 : M28 0 [.val (.ref r),l1] st H Q = M28 1 [.val (.ref r),l1] (.ref r::st) H Q:=w_x (dc (.aload_n 0,1)) rfl
theorem m28_1 : M28 1 ls st H Q = M28 3 ls (.int 19::st) H Q:=w_con (dc (.bipush 19,2)) rfl (by decide)
theorem m28_3 : M28 3 ls st H Q = M28 4 ls (.int 3::st) H Q:=w_con (dc (.iconst 3,1)) rfl (by decide)
theorem m28_4 : M28 4 [l0,.val (.int v)] st H Q = M28 5 [l0,.val (.int v)] (.int v::st) H Q:=w_x (dc (.iload_n 1,1)) rfl
theorem m28_5 : M28 5 ls (.int y::.int x::st) H Q = M28 6 ls (.int (x * y)::st) H Q:=w_x (dc (.imul,1)) rfl
theorem m28_6 : M28 6 ls (.int y::.int x::st) H Q = M28 7 ls (.int (x + y)::st) H Q:=w_x (dc (.iadd,1)) rfl
theorem cr28_7 : sR tables_1 dn y28 7 = some (y23,method_2_code,2,(some .int),2,1):=sR_of (cR_of (by decide +kernel) rc_23 dn_23 dn_28 (sig:=⟨[.array .int,.int],some .int⟩) (by decide +kernel) (by decide +kernel) rfl rfl) (by decide +kernel)
theorem m28_7 (a0 : Nat) (a1 : Int32) : M28 7 ls [.int a1,.ref a0] H Q = M23 0 [.val (.ref a0),.val (.int a1)] [] H (fun v H1 => M28 10 ls (v.toList ++ []) H1 Q):=w_stat (as:=[.int a1,.ref a0]) (rest:=[]) (dc (.invokestatic 7,3)) cr28_7 rfl (Nat.le_of_ble_eq_true rfl) (by show 2≤2; omega) rfl
theorem m28_10 : M28 10 ls st H Q = M28 12 ls (.int 8::st) H Q:=w_con (dc (.bipush 8,2)) rfl (by decide)
theorem cr28_13 : sR tables_1 dn y28 13 = some (y24,method_3_code,3,(some .int),2,0):=sR_of (cR_of (by decide +kernel) rc_24 dn_24 dn_28 (sig:=⟨[.int,.int],some .int⟩) (by decide +kernel) (by decide +kernel) rfl rfl) (by decide +kernel)
theorem m28_12 (a0 : Int32) (a1 : Int32) : M28 12 ls [.int a1,.int a0] H Q = M24 0 [.val (.int a0),.val (.int a1),.unset] [] H (fun v H1 => M28 15 ls (v.toList ++ []) H1 Q):=w_stat (as:=[.int a1,.int a0]) (rest:=[]) (dc (.invokestatic 13,3)) cr28_13 rfl (Nat.le_of_ble_eq_true rfl) (by show 2≤3; omega) rfl
theorem m28_15 : M28 15 ls (.int z::st) H Q = Q (some (.int z)) H:=w_iret (dc (.ireturn,1)) rfl
theorem m29_0 : M29 0 ls st H Q = M29 1 ls (.long 0::st) H Q:=w_con (dc (.lconst 0,1)) rfl (by decide)
theorem m29_1 : M29 1 [l0,l1,l2,l3,l4,.unset,.unset,l7,l8,l9,l10,l11,l12,l13,l14] (.long J1::st) H Q = M29 3 [l0,l1,l2,l3,l4,.val (.long J1),.second,l7,l8,l9,l10,l11,l12,l13,l14] st H Q:=w_x (dc (.lstore 5,2)) rfl
theorem m29_3 : M29 3 ls st H Q = M29 4 ls (.int 0::st) H Q:=w_con (dc (.iconst 0,1)) rfl (by decide)
theorem m29_4u : M29 4 [l0,l1,l2,l3,l4,l5,l6,.unset,l8,l9,l10,l11,l12,l13,l14] ((.int v)::st) H Q = M29 6 [l0,l1,l2,l3,l4,l5,l6,.val (.int v),l8,l9,l10,l11,l12,l13,l14] st H Q:=w_st (i:=7) (p:=isI) (dc (.istore 7,2)) rfl rfl rfl rfl rfl rfl
theorem m29_6 : M29 6 [l0,l1,l2,l3,l4,l5,l6,.val (.int v),l8,l9,l10,l11,l12,l13,l14] st H Q = M29 8 [l0,l1,l2,l3,l4,l5,l6,.val (.int v),l8,l9,l10,l11,l12,l13,l14] (.int v::st) H Q:=w_x (dc (.iload 7,2)) rfl
theorem m29_8 : M29 8 [l0,.val (.int v),l2,l3,l4,l5,l6,l7,l8,l9,l10,l11,l12,l13,l14] st H Q = M29 9 [l0,.val (.int v),l2,l3,l4,l5,l6,l7,l8,l9,l10,l11,l12,l13,l14] (.int v::st) H Q:=w_x (dc (.iload_n 1,1)) rfl
theorem m29_9 : M29 9 ls (.int y::.int x::st) H Q = if x < y then M29 12 ls st H Q else M29 40 ls st H Q:=w_icmpN (dc (.if_icmp .ge 31,3)) (i_ge x y) rfl
theorem m29_12 : M29 12 [l0,l1,l2,l3,l4,.val (.long J1),l6,l7,l8,l9,l10,l11,l12,l13,l14] st H Q = M29 14 [l0,l1,l2,l3,l4,.val (.long J1),l6,l7,l8,l9,l10,l11,l12,l13,l14] (.long J1::st) H Q:=w_x (dc (.lload 5,2)) rfl
theorem m29_14 : M29 14 [l0,l1,l2,l3,l4,l5,l6,.val (.int v),l8,l9,l10,l11,l12,l13,l14] st H Q = M29 16 [l0,l1,l2,l3,l4,l5,l6,.val (.int v),l8,l9,l10,l11,l12,l13,l14] (.int v::st) H Q:=w_x (dc (.iload 7,2)) rfl
theorem m29_16 : M29 16 ls st H Q = M29 18 ls (.int 12::st) H Q:=w_con (dc (.bipush 12,2)) rfl (by decide)
theorem m29_18 : M29 18 [.val (.ref r),l1,l2,l3,l4,l5,l6,l7,l8,l9,l10,l11,l12,l13,l14] st H Q = M29 19 [.val (.ref r),l1,l2,l3,l4,l5,l6,l7,l8,l9,l10,l11,l12,l13,l14] (.ref r::st) H Q:=w_x (dc (.aload_n 0,1)) rfl
theorem m29_19 : M29 19 [l0,l1,l2,l3,l4,l5,l6,.val (.int v),l8,l9,l10,l11,l12,l13,l14] st H Q = M29 21 [l0,l1,l2,l3,l4,l5,l6,.val (.int v),l8,l9,l10,l11,l12,l13,l14] (.int v::st) H Q:=w_x (dc (.iload 7,2)) rfl
theorem cr29_19 : sR tables_1 dn y29 19 = some (y25,method_4_code,2,(some .int),2,4):=sR_of (cR_of (by decide +kernel) rc_25 dn_25 dn_29 (sig:=⟨[.array .int,.int],some .int⟩) (by decide +kernel) (by decide +kernel) rfl rfl) (by decide +kernel)
theorem m29_21 (a0 : Nat) (a1 : Int32) (u0 : Int32) (u1 : Int32) (u2 : Int64) : M29 21 ls [.int a1,.ref a0,.int u0,.int u1,.long u2] H Q = M25 0 [.val (.ref a0),.val (.int a1)] [] H (fun v H1 => M29 24 ls (v.toList ++ [.int u0,.int u1,.long u2]) H1 Q):=w_stat (as:=[.int a1,.ref a0]) (rest:=[.int u0,.int u1,.long u2]) (dc (.invokestatic 19,3)) cr29_19 rfl (Nat.le_of_ble_eq_true rfl) (by show 2≤2; omega) rfl
theorem m29_24 : M29 24 ls st H Q = M29 26 ls (.int 16::st) H Q:=w_con (dc (.bipush 16,2)) rfl (by decide)
theorem m29_26 : M29 26 ls (.int y::.int x::st) H Q = M29 27 ls (.int (x * y)::st) H Q:=w_x (dc (.imul,1)) rfl
theorem m29_27 : M29 27 ls st H Q = M29 28 ls (.int 1::st) H Q:=w_con (dc (.iconst 1,1)) rfl (by decide)
theorem m29_28 : M29 28 ls (.int y::.int x::st) H Q = M29 29 ls (.int (x + y)::st) H Q:=w_x (dc (.iadd,1)) rfl
theorem cr29_22 : sR tables_1 dn y29 22 = some (y30,method_9_code,7,(some .long),4,13):=sR_of (cR_of (by decide +kernel) rc_30 dn_30 dn_29 (sig:=⟨[.long,.int,.int,.int],some .long⟩) (by decide +kernel) (by decide +kernel) rfl rfl) (by decide +kernel)
theorem m29_29 (a0 : Int64) (a1 : Int32) (a2 : Int32) (a3 : Int32) : M29 29 ls [.int a3,.int a2,.int a1,.long a0] H Q = M30 0 [.val (.long a0),.second,.val (.int a1),.val (.int a2),.val (.int a3),.unset,.unset] [] H (fun v H1 => M29 32 ls (v.toList ++ []) H1 Q):=w_stat (as:=[.int a3,.int a2,.int a1,.long a0]) (rest:=[]) (dc (.invokestatic 22,3)) cr29_22 rfl (Nat.le_of_ble_eq_true rfl) (by show 5≤7; omega) rfl
theorem m29_32 : M29 32 [l0,l1,l2,l3,l4,.val (.long J2),.second,l7,l8,l9,l10,l11,l12,l13,l14] (.long J1::st) H Q = M29 34 [l0,l1,l2,l3,l4,.val (.long J1),.second,l7,l8,l9,l10,l11,l12,l13,l14] st H Q:=w_x (dc (.lstore 5,2)) rfl
theorem m29_34 : M29 34 [l0,l1,l2,l3,l4,l5,l6,.val (.int v),l8,l9,l10,l11,l12,l13,l14] st H Q = M29 37 [l0,l1,l2,l3,l4,l5,l6,.val (.int (v + 1)),l8,l9,l10,l11,l12,l13,l14] st H Q:=w_iinc (dc (.iinc 7 1,3)) rfl (by decide) rfl
theorem m29_37 : M29 37 ls st H Q = M29 6 ls st H Q:=w_x (dc (.goto (-31),3)) rfl
theorem m29_40 : M29 40 ls st H Q = M29 41 ls (.int 1::st) H Q:=w_con (dc (.iconst 1,1)) rfl (by decide)
theorem m29_41i : M29 41 [l0,l1,l2,l3,l4,l5,l6,.val (.int z),l8,l9,l10,l11,l12,l13,l14] ((.int v)::st) H Q = M29 43 [l0,l1,l2,l3,l4,l5,l6,.val (.int v),l8,l9,l10,l11,l12,l13,l14] st H Q:=w_st (i:=7) (p:=isI) (dc (.istore 7,2)) rfl rfl rfl rfl rfl rfl
theorem m29_43 : M29 43 ls st H Q = M29 44 ls (.int 0::st) H Q:=w_con (dc (.iconst 0,1)) rfl (by decide)
theorem m29_44u : M29 44 [l0,l1,l2,l3,l4,l5,l6,l7,.unset,l9,l10,l11,l12,l13,l14] ((.int v)::st) H Q = M29 46 [l0,l1,l2,l3,l4,l5,l6,l7,.val (.int v),l9,l10,l11,l12,l13,l14] st H Q:=w_st (i:=8) (p:=isI) (dc (.istore 8,2)) rfl rfl rfl rfl rfl rfl
theorem m29_46 : M29 46 [l0,l1,l2,l3,l4,l5,l6,l7,.val (.int v),l9,l10,l11,l12,l13,l14] st H Q = M29 48 [l0,l1,l2,l3,l4,l5,l6,l7,.val (.int v),l9,l10,l11,l12,l13,l14] (.int v::st) H Q:=w_x (dc (.iload 8,2)) rfl
theorem m29_48 : M29 48 [l0,.val (.int v),l2,l3,l4,l5,l6,l7,l8,l9,l10,l11,l12,l13,l14] st H Q = M29 49 [l0,.val (.int v),l2,l3,l4,l5,l6,l7,l8,l9,l10,l11,l12,l13,l14] (.int v::st) H Q:=w_x (dc (.iload_n 1,1)) rfl
theorem m29_49 : M29 49 ls (.int y::.int x::st) H Q = if x < y then M29 52 ls st H Q else M29 183 ls st H Q:=w_icmpN (dc (.if_icmp .ge 134,3)) (i_ge x y) rfl
theorem m29_52 : M29 52 [l0,l1,l2,l3,l4,l5,l6,.val (.int v),l8,l9,l10,l11,l12,l13,l14] st H Q = M29 54 [l0,l1,l2,l3,l4,l5,l6,.val (.int v),l8,l9,l10,l11,l12,l13,l14] (.int v::st) H Q:=w_x (dc (.iload 7,2)) rfl
theorem m29_54 : M29 54 ls (.int x::st) H Q = if x = 0 then M29 183 ls st H Q else M29 57 ls st H Q:=w_if (dc (.ifCond .eq 129,3)) (z_eq x) rfl
theorem m29_57 : M29 57 [l0,l1,l2,l3,l4,.val (.long J1),l6,l7,l8,l9,l10,l11,l12,l13,l14] st H Q = M29 59 [l0,l1,l2,l3,l4,.val (.long J1),l6,l7,l8,l9,l10,l11,l12,l13,l14] (.long J1::st) H Q:=w_x (dc (.lload 5,2)) rfl
theorem m29_59 : M29 59 [l0,l1,l2,l3,l4,l5,l6,l7,l8,.unset,.unset,l11,l12,l13,l14] (.long J1::st) H Q = M29 61 [l0,l1,l2,l3,l4,l5,l6,l7,l8,.val (.long J1),.second,l11,l12,l13,l14] st H Q:=w_x (dc (.lstore 9,2)) rfl
theorem m29_61 : M29 61 ls st H Q = M29 62 ls (.int 0::st) H Q:=w_con (dc (.iconst 0,1)) rfl (by decide)
theorem m29_62u : M29 62 [l0,l1,l2,l3,l4,l5,l6,l7,l8,l9,l10,.unset,l12,l13,l14] ((.int v)::st) H Q = M29 64 [l0,l1,l2,l3,l4,l5,l6,l7,l8,l9,l10,.val (.int v),l12,l13,l14] st H Q:=w_st (i:=11) (p:=isI) (dc (.istore 11,2)) rfl rfl rfl rfl rfl rfl
theorem m29_62i : M29 62 [l0,l1,l2,l3,l4,l5,l6,l7,l8,l9,l10,.val (.int z),l12,l13,l14] ((.int v)::st) H Q = M29 64 [l0,l1,l2,l3,l4,l5,l6,l7,l8,l9,l10,.val (.int v),l12,l13,l14] st H Q:=w_st (i:=11) (p:=isI) (dc (.istore 11,2)) rfl rfl rfl rfl rfl rfl
theorem m29_62g (h : okS l11) : M29 62 [l0,l1,l2,l3,l4,l5,l6,l7,l8,l9,l10,l11,l12,l13,l14] ((.int v)::st) H Q = M29 64 [l0,l1,l2,l3,l4,l5,l6,l7,l8,l9,l10,.val (.int v),l12,l13,l14] st H Q:=by rcases h with rfl | ⟨z,rfl⟩ <;> first | exact m29_62u | exact m29_62i
theorem m29_64 : M29 64 [l0,l1,l2,l3,l4,l5,l6,l7,l8,l9,l10,.val (.int v),l12,l13,l14] st H Q = M29 66 [l0,l1,l2,l3,l4,l5,l6,l7,l8,l9,l10,.val (.int v),l12,l13,l14] (.int v::st) H Q:=w_x (dc (.iload 11,2)) rfl
theorem m29_66 : M29 66 [l0,l1,.val (.int v),l3,l4,l5,l6,l7,l8,l9,l10,l11,l12,l13,l14] st H Q = M29 67 [l0,l1,.val (.int v),l3,l4,l5,l6,l7,l8,l9,l10,l11,l12,l13,l14] (.int v::st) H Q:=w_x (dc (.iload_n 2,1)) rfl
theorem m29_67 : M29 67 ls (.int y::.int x::st) H Q = if x < y then M29 70 ls st H Q else M29 158 ls st H Q:=w_icmpN (dc (.if_icmp .ge 91,3)) (i_ge x y) rfl
theorem m29_70 : M29 70 [l0,l1,l2,.val (.long J1),l4,l5,l6,l7,l8,l9,l10,l11,l12,l13,l14] st H Q = M29 71 [l0,l1,l2,.val (.long J1),l4,l5,l6,l7,l8,l9,l10,l11,l12,l13,l14] (.long J1::st) H Q:=w_x (dc (.lload_n 3,1)) rfl
theorem m29_71 : M29 71 [l0,l1,l2,l3,l4,l5,l6,l7,l8,l9,l10,.val (.int v),l12,l13,l14] st H Q = M29 73 [l0,l1,l2,l3,l4,l5,l6,l7,l8,l9,l10,.val (.int v),l12,l13,l14] (.int v::st) H Q:=w_x (dc (.iload 11,2)) rfl
theorem m29_73 : M29 73 ls (.int y::.long J1::st) H Q = M29 74 ls (.long (XT.ushrL J1 y)::st) H Q:=w_x (dc (.lushr,1)) rfl
theorem m29_74 : M29 74 ls st H Q = M29 75 ls (.long 1::st) H Q:=w_con (dc (.lconst 1,1)) rfl (by decide)
theorem m29_75 : M29 75 ls (.long J2::.long J1::st) H Q = M29 76 ls (.long (J1 &&& J2)::st) H Q:=w_x (dc (.land,1)) rfl
theorem m29_76 : M29 76 ls st H Q = M29 77 ls (.long 0::st) H Q:=w_con (dc (.lconst 0,1)) rfl (by decide)
theorem m29_77 : M29 77 ls (.long J2::.long J1::st) H Q = M29 78 ls (.int (XT.cmpL J1 J2)::st) H Q:=w_x (dc (.lcmp,1)) rfl
theorem m29_78 : M29 78 ls (.int x::st) H Q = if x = 0 then M29 81 ls st H Q else M29 84 ls st H Q:=w_ifN (dc (.ifCond .ne 6,3)) (z_ne x) rfl
theorem m29_81 : M29 81 ls st H Q = M29 152 ls st H Q:=w_x (dc (.goto 71,3)) rfl
theorem m29_84 : M29 84 [.val (.ref r),l1,l2,l3,l4,l5,l6,l7,l8,l9,l10,l11,l12,l13,l14] st H Q = M29 85 [.val (.ref r),l1,l2,l3,l4,l5,l6,l7,l8,l9,l10,l11,l12,l13,l14] (.ref r::st) H Q:=w_x (dc (.aload_n 0,1)) rfl
theorem m29_85 : M29 85 [l0,.val (.int v),l2,l3,l4,l5,l6,l7,l8,l9,l10,l11,l12,l13,l14] st H Q = M29 86 [l0,.val (.int v),l2,l3,l4,l5,l6,l7,l8,l9,l10,l11,l12,l13,l14] (.int v::st) H Q:=w_x (dc (.iload_n 1,1)) rfl
theorem m29_86 : M29 86 [l0,l1,l2,l3,l4,l5,l6,l7,l8,l9,l10,.val (.int v),l12,l13,l14] st H Q = M29 88 [l0,l1,l2,l3,l4,l5,l6,l7,l8,l9,l10,.val (.int v),l12,l13,l14] (.int v::st) H Q:=w_x (dc (.iload 11,2)) rfl
theorem cr29_26 : sR tables_1 dn y29 26 = some (y26,method_5_code,3,(some .int),3,3):=sR_of (cR_of (by decide +kernel) rc_26 dn_26 dn_29 (sig:=⟨[.array .int,.int,.int],some .int⟩) (by decide +kernel) (by decide +kernel) rfl rfl) (by decide +kernel)
theorem m29_88 (a0 : Nat) (a1 : Int32) (a2 : Int32) : M29 88 ls [.int a2,.int a1,.ref a0] H Q = M26 0 [.val (.ref a0),.val (.int a1),.val (.int a2)] [] H (fun v H1 => M29 91 ls (v.toList ++ []) H1 Q):=w_stat (as:=[.int a2,.int a1,.ref a0]) (rest:=[]) (dc (.invokestatic 26,3)) cr29_26 rfl (Nat.le_of_ble_eq_true rfl) (by show 3≤3; omega) rfl
theorem m29_91u : M29 91 [l0,l1,l2,l3,l4,l5,l6,l7,l8,l9,l10,l11,.unset,l13,l14] ((.int v)::st) H Q = M29 93 [l0,l1,l2,l3,l4,l5,l6,l7,l8,l9,l10,l11,.val (.int v),l13,l14] st H Q:=w_st (i:=12) (p:=isI) (dc (.istore 12,2)) rfl rfl rfl rfl rfl rfl
theorem m29_91i : M29 91 [l0,l1,l2,l3,l4,l5,l6,l7,l8,l9,l10,l11,.val (.int z),l13,l14] ((.int v)::st) H Q = M29 93 [l0,l1,l2,l3,l4,l5,l6,l7,l8,l9,l10,l11,.val (.int v),l13,l14] st H Q:=w_st (i:=12) (p:=isI) (dc (.istore 12,2)) rfl rfl rfl rfl rfl rfl
theorem m29_91g (h : okS l12) : M29 91 [l0,l1,l2,l3,l4,l5,l6,l7,l8,l9,l10,l11,l12,l13,l14] ((.int v)::st) H Q = M29 93 [l0,l1,l2,l3,l4,l5,l6,l7,l8,l9,l10,l11,.val (.int v),l13,l14] st H Q:=by rcases h with rfl | ⟨z,rfl⟩ <;> first | exact m29_91u | exact m29_91i
theorem m29_93 : M29 93 [.val (.ref r),l1,l2,l3,l4,l5,l6,l7,l8,l9,l10,l11,l12,l13,l14] st H Q = M29 94 [.val (.ref r),l1,l2,l3,l4,l5,l6,l7,l8,l9,l10,l11,l12,l13,l14] (.ref r::st) H Q:=w_x (dc (.aload_n 0,1)) rfl
theorem m29_94 : M29 94 [l0,.val (.int v),l2,l3,l4,l5,l6,l7,l8,l9,l10,l11,l12,l13,l14] st H Q = M29 95 [l0,.val (.int v),l2,l3,l4,l5,l6,l7,l8,l9,l10,l11,l12,l13,l14] (.int v::st) H Q:=w_x (dc (.iload_n 1,1)) rfl
theorem m29_95 : M29 95 [l0,l1,l2,l3,l4,l5,l6,l7,l8,l9,l10,.val (.int v),l12,l13,l14] st H Q = M29 97 [l0,l1,l2,l3,l4,l5,l6,l7,l8,l9,l10,.val (.int v),l12,l13,l14] (.int v::st) H Q:=w_x (dc (.iload 11,2)) rfl
theorem cr29_30 : sR tables_1 dn y29 30 = some (y27,method_6_code,3,(some .int),3,3):=sR_of (cR_of (by decide +kernel) rc_27 dn_27 dn_29 (sig:=⟨[.array .int,.int,.int],some .int⟩) (by decide +kernel) (by decide +kernel) rfl rfl) (by decide +kernel)
theorem m29_97 (a0 : Nat) (a1 : Int32) (a2 : Int32) : M29 97 ls [.int a2,.int a1,.ref a0] H Q = M27 0 [.val (.ref a0),.val (.int a1),.val (.int a2)] [] H (fun v H1 => M29 100 ls (v.toList ++ []) H1 Q):=w_stat (as:=[.int a2,.int a1,.ref a0]) (rest:=[]) (dc (.invokestatic 30,3)) cr29_30 rfl (Nat.le_of_ble_eq_true rfl) (by show 3≤3; omega) rfl
theorem m29_100u : M29 100 [l0,l1,l2,l3,l4,l5,l6,l7,l8,l9,l10,l11,l12,.unset,l14] ((.int v)::st) H Q = M29 102 [l0,l1,l2,l3,l4,l5,l6,l7,l8,l9,l10,l11,l12,.val (.int v),l14] st H Q:=w_st (i:=13) (p:=isI) (dc (.istore 13,2)) rfl rfl rfl rfl rfl rfl
theorem m29_100i : M29 100 [l0,l1,l2,l3,l4,l5,l6,l7,l8,l9,l10,l11,l12,.val (.int z),l14] ((.int v)::st) H Q = M29 102 [l0,l1,l2,l3,l4,l5,l6,l7,l8,l9,l10,l11,l12,.val (.int v),l14] st H Q:=w_st (i:=13) (p:=isI) (dc (.istore 13,2)) rfl rfl rfl rfl rfl rfl
theorem m29_100g (h : okS l13) : M29 100 [l0,l1,l2,l3,l4,l5,l6,l7,l8,l9,l10,l11,l12,l13,l14] ((.int v)::st) H Q = M29 102 [l0,l1,l2,l3,l4,l5,l6,l7,l8,l9,l10,l11,l12,.val (.int v),l14] st H Q:=by rcases h with rfl | ⟨z,rfl⟩ <;> first | exact m29_100u | exact m29_100i
theorem m29_102 : M29 102 [l0,l1,l2,l3,l4,.val (.long J1),l6,l7,l8,l9,l10,l11,l12,l13,l14] st H Q = M29 104 [l0,l1,l2,l3,l4,.val (.long J1),l6,l7,l8,l9,l10,l11,l12,l13,l14] (.long J1::st) H Q:=w_x (dc (.lload 5,2)) rfl
theorem m29_104 : M29 104 [l0,l1,l2,l3,l4,l5,l6,l7,l8,l9,l10,l11,.val (.int v),l13,l14] st H Q = M29 106 [l0,l1,l2,l3,l4,l5,l6,l7,l8,l9,l10,l11,.val (.int v),l13,l14] (.int v::st) H Q:=w_x (dc (.iload 12,2)) rfl
theorem m29_106 : M29 106 ls st H Q = M29 108 ls (.int 12::st) H Q:=w_con (dc (.bipush 12,2)) rfl (by decide)
theorem cr29_33 : sR tables_1 dn y29 33 = some (y31,method_8_code,4,(some .int),3,16):=sR_of (cR_of (by decide +kernel) rc_31 dn_31 dn_29 (sig:=⟨[.long,.int,.int],some .int⟩) (by decide +kernel) (by decide +kernel) rfl rfl) (by decide +kernel)
theorem m29_108 (a0 : Int64) (a1 : Int32) (a2 : Int32) : M29 108 ls [.int a2,.int a1,.long a0] H Q = M31 0 [.val (.long a0),.second,.val (.int a1),.val (.int a2)] [] H (fun v H1 => M29 111 ls (v.toList ++ []) H1 Q):=w_stat (as:=[.int a2,.int a1,.long a0]) (rest:=[]) (dc (.invokestatic 33,3)) cr29_33 rfl (Nat.le_of_ble_eq_true rfl) (by show 4≤4; omega) rfl
theorem m29_111 : M29 111 [.val (.ref r),l1,l2,l3,l4,l5,l6,l7,l8,l9,l10,l11,l12,l13,l14] st H Q = M29 112 [.val (.ref r),l1,l2,l3,l4,l5,l6,l7,l8,l9,l10,l11,l12,l13,l14] (.ref r::st) H Q:=w_x (dc (.aload_n 0,1)) rfl
theorem m29_112 : M29 112 [l0,l1,l2,l3,l4,l5,l6,l7,l8,l9,l10,l11,l12,.val (.int v),l14] st H Q = M29 114 [l0,l1,l2,l3,l4,l5,l6,l7,l8,l9,l10,l11,l12,.val (.int v),l14] (.int v::st) H Q:=w_x (dc (.iload 13,2)) rfl
theorem m29_114 (a0 : Nat) (a1 : Int32) (u0 : Int32) : M29 114 ls [.int a1,.ref a0,.int u0] H Q = M25 0 [.val (.ref a0),.val (.int a1)] [] H (fun v H1 => M29 117 ls (v.toList ++ [.int u0]) H1 Q):=w_stat (as:=[.int a1,.ref a0]) (rest:=[.int u0]) (dc (.invokestatic 19,3)) cr29_19 rfl (Nat.le_of_ble_eq_true rfl) (by show 2≤2; omega) rfl
theorem m29_117 : M29 117 ls st H Q = M29 119 ls (.int 16::st) H Q:=w_con (dc (.bipush 16,2)) rfl (by decide)
theorem m29_119 : M29 119 ls (.int y::.int x::st) H Q = M29 120 ls (.int (x * y)::st) H Q:=w_x (dc (.imul,1)) rfl
theorem m29_120 : M29 120 ls (.int y::.int x::st) H Q = M29 121 ls (.int (x + y)::st) H Q:=w_x (dc (.iadd,1)) rfl
theorem m29_121 : M29 121 ls st H Q = M29 122 ls (.int 1::st) H Q:=w_con (dc (.iconst 1,1)) rfl (by decide)
theorem m29_122 : M29 122 ls (.int y::.int x::st) H Q = M29 123 ls (.int (x + y)::st) H Q:=w_x (dc (.iadd,1)) rfl
theorem m29_123u : M29 123 [l0,l1,l2,l3,l4,l5,l6,l7,l8,l9,l10,l11,l12,l13,.unset] ((.int v)::st) H Q = M29 125 [l0,l1,l2,l3,l4,l5,l6,l7,l8,l9,l10,l11,l12,l13,.val (.int v)] st H Q:=w_st (i:=14) (p:=isI) (dc (.istore 14,2)) rfl rfl rfl rfl rfl rfl
theorem m29_123i : M29 123 [l0,l1,l2,l3,l4,l5,l6,l7,l8,l9,l10,l11,l12,l13,.val (.int z)] ((.int v)::st) H Q = M29 125 [l0,l1,l2,l3,l4,l5,l6,l7,l8,l9,l10,l11,l12,l13,.val (.int v)] st H Q:=w_st (i:=14) (p:=isI) (dc (.istore 14,2)) rfl rfl rfl rfl rfl rfl
theorem m29_123g (h : okS l14) : M29 123 [l0,l1,l2,l3,l4,l5,l6,l7,l8,l9,l10,l11,l12,l13,l14] ((.int v)::st) H Q = M29 125 [l0,l1,l2,l3,l4,l5,l6,l7,l8,l9,l10,l11,l12,l13,.val (.int v)] st H Q:=by rcases h with rfl | ⟨z,rfl⟩ <;> first | exact m29_123u | exact m29_123i
theorem m29_125 : M29 125 [l0,l1,l2,l3,l4,l5,l6,l7,l8,l9,l10,l11,l12,l13,.val (.int v)] st H Q = M29 127 [l0,l1,l2,l3,l4,l5,l6,l7,l8,l9,l10,l11,l12,l13,.val (.int v)] (.int v::st) H Q:=w_x (dc (.iload 14,2)) rfl
theorem m29_127 : M29 127 [l0,l1,l2,l3,l4,l5,l6,l7,l8,.val (.long J1),l10,l11,l12,l13,l14] st H Q = M29 129 [l0,l1,l2,l3,l4,l5,l6,l7,l8,.val (.long J1),l10,l11,l12,l13,l14] (.long J1::st) H Q:=w_x (dc (.lload 9,2)) rfl
theorem m29_129 : M29 129 [l0,l1,l2,l3,l4,l5,l6,l7,l8,l9,l10,l11,l12,.val (.int v),l14] st H Q = M29 131 [l0,l1,l2,l3,l4,l5,l6,l7,l8,l9,l10,l11,l12,.val (.int v),l14] (.int v::st) H Q:=w_x (dc (.iload 13,2)) rfl
theorem m29_131 : M29 131 ls st H Q = M29 133 ls (.int 12::st) H Q:=w_con (dc (.bipush 12,2)) rfl (by decide)
theorem m29_133 (a0 : Int64) (a1 : Int32) (a2 : Int32) (u0 : Int32) : M29 133 ls [.int a2,.int a1,.long a0,.int u0] H Q = M31 0 [.val (.long a0),.second,.val (.int a1),.val (.int a2)] [] H (fun v H1 => M29 136 ls (v.toList ++ [.int u0]) H1 Q):=w_stat (as:=[.int a2,.int a1,.long a0]) (rest:=[.int u0]) (dc (.invokestatic 33,3)) cr29_33 rfl (Nat.le_of_ble_eq_true rfl) (by show 4≤4; omega) rfl
theorem m29_136 : M29 136 ls (.int y::.int x::st) H Q = if y < x then M29 139 ls st H Q else M29 152 ls st H Q:=w_icmpN (dc (.if_icmp .le 16,3)) (i_le x y) rfl
theorem m29_139 : M29 139 [l0,l1,l2,l3,l4,l5,l6,l7,l8,.val (.long J1),l10,l11,l12,l13,l14] st H Q = M29 141 [l0,l1,l2,l3,l4,l5,l6,l7,l8,.val (.long J1),l10,l11,l12,l13,l14] (.long J1::st) H Q:=w_x (dc (.lload 9,2)) rfl
theorem m29_141 : M29 141 [l0,l1,l2,l3,l4,l5,l6,l7,l8,l9,l10,l11,l12,.val (.int v),l14] st H Q = M29 143 [l0,l1,l2,l3,l4,l5,l6,l7,l8,l9,l10,l11,l12,.val (.int v),l14] (.int v::st) H Q:=w_x (dc (.iload 13,2)) rfl
theorem m29_143 : M29 143 ls st H Q = M29 145 ls (.int 12::st) H Q:=w_con (dc (.bipush 12,2)) rfl (by decide)
theorem m29_145 : M29 145 [l0,l1,l2,l3,l4,l5,l6,l7,l8,l9,l10,l11,l12,l13,.val (.int v)] st H Q = M29 147 [l0,l1,l2,l3,l4,l5,l6,l7,l8,l9,l10,l11,l12,l13,.val (.int v)] (.int v::st) H Q:=w_x (dc (.iload 14,2)) rfl
theorem m29_147 (a0 : Int64) (a1 : Int32) (a2 : Int32) (a3 : Int32) : M29 147 ls [.int a3,.int a2,.int a1,.long a0] H Q = M30 0 [.val (.long a0),.second,.val (.int a1),.val (.int a2),.val (.int a3),.unset,.unset] [] H (fun v H1 => M29 150 ls (v.toList ++ []) H1 Q):=w_stat (as:=[.int a3,.int a2,.int a1,.long a0]) (rest:=[]) (dc (.invokestatic 22,3)) cr29_22 rfl (Nat.le_of_ble_eq_true rfl) (by show 5≤7; omega) rfl
theorem m29_150 : M29 150 [l0,l1,l2,l3,l4,l5,l6,l7,l8,.val (.long J2),.second,l11,l12,l13,l14] (.long J1::st) H Q = M29 152 [l0,l1,l2,l3,l4,l5,l6,l7,l8,.val (.long J1),.second,l11,l12,l13,l14] st H Q:=w_x (dc (.lstore 9,2)) rfl
theorem m29_152 : M29 152 [l0,l1,l2,l3,l4,l5,l6,l7,l8,l9,l10,.val (.int v),l12,l13,l14] st H Q = M29 155 [l0,l1,l2,l3,l4,l5,l6,l7,l8,l9,l10,.val (.int (v + 1)),l12,l13,l14] st H Q:=w_iinc (dc (.iinc 11 1,3)) rfl (by decide) rfl
theorem m29_155 : M29 155 ls st H Q = M29 64 ls st H Q:=w_x (dc (.goto (-91),3)) rfl
theorem m29_158 : M29 158 [l0,l1,l2,l3,l4,l5,l6,l7,l8,.val (.long J1),l10,l11,l12,l13,l14] st H Q = M29 160 [l0,l1,l2,l3,l4,l5,l6,l7,l8,.val (.long J1),l10,l11,l12,l13,l14] (.long J1::st) H Q:=w_x (dc (.lload 9,2)) rfl
theorem m29_160 : M29 160 [l0,l1,l2,l3,l4,.val (.long J1),l6,l7,l8,l9,l10,l11,l12,l13,l14] st H Q = M29 162 [l0,l1,l2,l3,l4,.val (.long J1),l6,l7,l8,l9,l10,l11,l12,l13,l14] (.long J1::st) H Q:=w_x (dc (.lload 5,2)) rfl
theorem m29_162 : M29 162 ls (.long J2::.long J1::st) H Q = M29 163 ls (.int (XT.cmpL J1 J2)::st) H Q:=w_x (dc (.lcmp,1)) rfl
theorem m29_163 : M29 163 ls (.int x::st) H Q = if x = 0 then M29 170 ls st H Q else M29 166 ls st H Q:=w_if (dc (.ifCond .eq 7,3)) (z_eq x) rfl
theorem m29_166 : M29 166 ls st H Q = M29 167 ls (.int 1::st) H Q:=w_con (dc (.iconst 1,1)) rfl (by decide)
theorem m29_167 : M29 167 ls st H Q = M29 171 ls st H Q:=w_x (dc (.goto 4,3)) rfl
theorem m29_170 : M29 170 ls st H Q = M29 171 ls (.int 0::st) H Q:=w_con (dc (.iconst 0,1)) rfl (by decide)
theorem m29_171i : M29 171 [l0,l1,l2,l3,l4,l5,l6,.val (.int z),l8,l9,l10,l11,l12,l13,l14] ((.int v)::st) H Q = M29 173 [l0,l1,l2,l3,l4,l5,l6,.val (.int v),l8,l9,l10,l11,l12,l13,l14] st H Q:=w_st (i:=7) (p:=isI) (dc (.istore 7,2)) rfl rfl rfl rfl rfl rfl
theorem m29_173 : M29 173 [l0,l1,l2,l3,l4,l5,l6,l7,l8,.val (.long J1),l10,l11,l12,l13,l14] st H Q = M29 175 [l0,l1,l2,l3,l4,l5,l6,l7,l8,.val (.long J1),l10,l11,l12,l13,l14] (.long J1::st) H Q:=w_x (dc (.lload 9,2)) rfl
theorem m29_175 : M29 175 [l0,l1,l2,l3,l4,.val (.long J2),.second,l7,l8,l9,l10,l11,l12,l13,l14] (.long J1::st) H Q = M29 177 [l0,l1,l2,l3,l4,.val (.long J1),.second,l7,l8,l9,l10,l11,l12,l13,l14] st H Q:=w_x (dc (.lstore 5,2)) rfl
theorem m29_177 : M29 177 [l0,l1,l2,l3,l4,l5,l6,l7,.val (.int v),l9,l10,l11,l12,l13,l14] st H Q = M29 180 [l0,l1,l2,l3,l4,l5,l6,l7,.val (.int (v + 1)),l9,l10,l11,l12,l13,l14] st H Q:=w_iinc (dc (.iinc 8 1,3)) rfl (by decide) rfl
theorem m29_180 : M29 180 ls st H Q = M29 46 ls st H Q:=w_x (dc (.goto (-134),3)) rfl
theorem m29_183 : M29 183 [l0,l1,l2,l3,l4,l5,l6,.val (.int v),l8,l9,l10,l11,l12,l13,l14] st H Q = M29 185 [l0,l1,l2,l3,l4,l5,l6,.val (.int v),l8,l9,l10,l11,l12,l13,l14] (.int v::st) H Q:=w_x (dc (.iload 7,2)) rfl
theorem m29_185 : M29 185 ls (.int x::st) H Q = if x = 0 then M29 190 ls st H Q else M29 188 ls st H Q:=w_if (dc (.ifCond .eq 5,3)) (z_eq x) rfl
theorem m29_188 : M29 188 ls st H Q = M29 189 ls (.int (-1)::st) H Q:=w_con (dc (.iconst (-1),1)) rfl (by decide)
theorem m29_189 : M29 189 ls (.int z::st) H Q = Q (some (.int z)) H:=w_iret (dc (.ireturn,1)) rfl
theorem m29_190 : M29 190 ls st H Q = M29 191 ls (.int 0::st) H Q:=w_con (dc (.iconst 0,1)) rfl (by decide)
theorem m29_191i : M29 191 [l0,l1,l2,l3,l4,l5,l6,l7,.val (.int z),l9,l10,l11,l12,l13,l14] ((.int v)::st) H Q = M29 193 [l0,l1,l2,l3,l4,l5,l6,l7,.val (.int v),l9,l10,l11,l12,l13,l14] st H Q:=w_st (i:=8) (p:=isI) (dc (.istore 8,2)) rfl rfl rfl rfl rfl rfl
theorem m29_193 : M29 193 ls st H Q = M29 194 ls (.int 0::st) H Q:=w_con (dc (.iconst 0,1)) rfl (by decide)
theorem m29_194u : M29 194 [l0,l1,l2,l3,l4,l5,l6,l7,l8,.unset,l10,l11,l12,l13,l14] ((.int v)::st) H Q = M29 196 [l0,l1,l2,l3,l4,l5,l6,l7,l8,.val (.int v),l10,l11,l12,l13,l14] st H Q:=w_st (i:=9) (p:=isI) (dc (.istore 9,2)) rfl rfl rfl rfl rfl rfl
theorem m29_194i : M29 194 [l0,l1,l2,l3,l4,l5,l6,l7,l8,.val (.int z),l10,l11,l12,l13,l14] ((.int v)::st) H Q = M29 196 [l0,l1,l2,l3,l4,l5,l6,l7,l8,.val (.int v),l10,l11,l12,l13,l14] st H Q:=w_st (i:=9) (p:=isI) (dc (.istore 9,2)) rfl rfl rfl rfl rfl rfl
theorem m29_194g (h : okS l9) : M29 194 [l0,l1,l2,l3,l4,l5,l6,l7,l8,l9,l10,l11,l12,l13,l14] ((.int v)::st) H Q = M29 196 [l0,l1,l2,l3,l4,l5,l6,l7,l8,.val (.int v),l10,l11,l12,l13,l14] st H Q:=by rcases h with rfl | ⟨z,rfl⟩ <;> first | exact m29_194u | exact m29_194i
theorem m29_196 : M29 196 [l0,l1,l2,l3,l4,l5,l6,l7,l8,.val (.int v),l10,l11,l12,l13,l14] st H Q = M29 198 [l0,l1,l2,l3,l4,l5,l6,l7,l8,.val (.int v),l10,l11,l12,l13,l14] (.int v::st) H Q:=w_x (dc (.iload 9,2)) rfl
theorem m29_198 : M29 198 [l0,.val (.int v),l2,l3,l4,l5,l6,l7,l8,l9,l10,l11,l12,l13,l14] st H Q = M29 199 [l0,.val (.int v),l2,l3,l4,l5,l6,l7,l8,l9,l10,l11,l12,l13,l14] (.int v::st) H Q:=w_x (dc (.iload_n 1,1)) rfl
theorem m29_199 : M29 199 ls (.int y::.int x::st) H Q = if x < y then M29 202 ls st H Q else M29 233 ls st H Q:=w_icmpN (dc (.if_icmp .ge 34,3)) (i_ge x y) rfl
theorem m29_202 : M29 202 [l0,l1,l2,l3,l4,.val (.long J1),l6,l7,l8,l9,l10,l11,l12,l13,l14] st H Q = M29 204 [l0,l1,l2,l3,l4,.val (.long J1),l6,l7,l8,l9,l10,l11,l12,l13,l14] (.long J1::st) H Q:=w_x (dc (.lload 5,2)) rfl
theorem m29_204 : M29 204 [l0,l1,l2,l3,l4,l5,l6,l7,l8,.val (.int v),l10,l11,l12,l13,l14] st H Q = M29 206 [l0,l1,l2,l3,l4,l5,l6,l7,l8,.val (.int v),l10,l11,l12,l13,l14] (.int v::st) H Q:=w_x (dc (.iload 9,2)) rfl
theorem m29_206 : M29 206 ls st H Q = M29 208 ls (.int 12::st) H Q:=w_con (dc (.bipush 12,2)) rfl (by decide)
theorem m29_208 (a0 : Int64) (a1 : Int32) (a2 : Int32) : M29 208 ls [.int a2,.int a1,.long a0] H Q = M31 0 [.val (.long a0),.second,.val (.int a1),.val (.int a2)] [] H (fun v H1 => M29 211 ls (v.toList ++ []) H1 Q):=w_stat (as:=[.int a2,.int a1,.long a0]) (rest:=[]) (dc (.invokestatic 33,3)) cr29_33 rfl (Nat.le_of_ble_eq_true rfl) (by show 4≤4; omega) rfl
theorem m29_211 : M29 211 ls st H Q = M29 213 ls (.int 16::st) H Q:=w_con (dc (.bipush 16,2)) rfl (by decide)
theorem m29_213 : M29 213 ls (.int y::.int x::st) H Q = (y ≠ 0∧M29 214 ls (.int (x / y)::st) H Q):=w_div (f:=fun x y => x / y) (dc (.idiv,1)) (fun _ => rfl) rfl rfl
theorem m29_214u : M29 214 [l0,l1,l2,l3,l4,l5,l6,l7,l8,l9,.unset,l11,l12,l13,l14] ((.int v)::st) H Q = M29 216 [l0,l1,l2,l3,l4,l5,l6,l7,l8,l9,.val (.int v),l11,l12,l13,l14] st H Q:=w_st (i:=10) (p:=isI) (dc (.istore 10,2)) rfl rfl rfl rfl rfl rfl
theorem m29_214i : M29 214 [l0,l1,l2,l3,l4,l5,l6,l7,l8,l9,.val (.int z),l11,l12,l13,l14] ((.int v)::st) H Q = M29 216 [l0,l1,l2,l3,l4,l5,l6,l7,l8,l9,.val (.int v),l11,l12,l13,l14] st H Q:=w_st (i:=10) (p:=isI) (dc (.istore 10,2)) rfl rfl rfl rfl rfl rfl
theorem m29_214g (h : okS l10) : M29 214 [l0,l1,l2,l3,l4,l5,l6,l7,l8,l9,l10,l11,l12,l13,l14] ((.int v)::st) H Q = M29 216 [l0,l1,l2,l3,l4,l5,l6,l7,l8,l9,.val (.int v),l11,l12,l13,l14] st H Q:=by rcases h with rfl | ⟨z,rfl⟩ <;> first | exact m29_214u | exact m29_214i
theorem m29_216 : M29 216 [l0,l1,l2,l3,l4,l5,l6,l7,l8,l9,.val (.int v),l11,l12,l13,l14] st H Q = M29 218 [l0,l1,l2,l3,l4,l5,l6,l7,l8,l9,.val (.int v),l11,l12,l13,l14] (.int v::st) H Q:=w_x (dc (.iload 10,2)) rfl
theorem m29_218 : M29 218 [l0,l1,l2,l3,l4,l5,l6,l7,.val (.int v),l9,l10,l11,l12,l13,l14] st H Q = M29 220 [l0,l1,l2,l3,l4,l5,l6,l7,.val (.int v),l9,l10,l11,l12,l13,l14] (.int v::st) H Q:=w_x (dc (.iload 8,2)) rfl
theorem m29_220 : M29 220 ls (.int y::.int x::st) H Q = if y < x then M29 223 ls st H Q else M29 227 ls st H Q:=w_icmpN (dc (.if_icmp .le 7,3)) (i_le x y) rfl
theorem m29_223 : M29 223 [l0,l1,l2,l3,l4,l5,l6,l7,l8,l9,.val (.int v),l11,l12,l13,l14] st H Q = M29 225 [l0,l1,l2,l3,l4,l5,l6,l7,l8,l9,.val (.int v),l11,l12,l13,l14] (.int v::st) H Q:=w_x (dc (.iload 10,2)) rfl
theorem m29_225i : M29 225 [l0,l1,l2,l3,l4,l5,l6,l7,.val (.int z),l9,l10,l11,l12,l13,l14] ((.int v)::st) H Q = M29 227 [l0,l1,l2,l3,l4,l5,l6,l7,.val (.int v),l9,l10,l11,l12,l13,l14] st H Q:=w_st (i:=8) (p:=isI) (dc (.istore 8,2)) rfl rfl rfl rfl rfl rfl
theorem m29_227 : M29 227 [l0,l1,l2,l3,l4,l5,l6,l7,l8,.val (.int v),l10,l11,l12,l13,l14] st H Q = M29 230 [l0,l1,l2,l3,l4,l5,l6,l7,l8,.val (.int (v + 1)),l10,l11,l12,l13,l14] st H Q:=w_iinc (dc (.iinc 9 1,3)) rfl (by decide) rfl
theorem m29_230 : M29 230 ls st H Q = M29 196 ls st H Q:=w_x (dc (.goto (-34),3)) rfl
theorem m29_233 : M29 233 [l0,l1,l2,l3,l4,l5,l6,l7,.val (.int v),l9,l10,l11,l12,l13,l14] st H Q = M29 235 [l0,l1,l2,l3,l4,l5,l6,l7,.val (.int v),l9,l10,l11,l12,l13,l14] (.int v::st) H Q:=w_x (dc (.iload 8,2)) rfl
theorem m29_235 : M29 235 ls (.int z::st) H Q = Q (some (.int z)) H:=w_iret (dc (.ireturn,1)) rfl
theorem m30_0 : M30 0 ls st H Q = M30 1 ls (.long 1::st) H Q:=w_con (dc (.lconst 1,1)) rfl (by decide)
theorem m30_1 : M30 1 [l0,l1,l2,.val (.int v),l4,l5,l6] st H Q = M30 2 [l0,l1,l2,.val (.int v),l4,l5,l6] (.int v::st) H Q:=w_x (dc (.iload_n 3,1)) rfl
theorem m30_2 : M30 2 ls (.int y::.long J1::st) H Q = M30 3 ls (.long (J1 <<< (y.toInt64 &&& 63))::st) H Q:=w_x (dc (.lshl,1)) rfl
theorem m30_3 : M30 3 ls st H Q = M30 4 ls (.long 1::st) H Q:=w_con (dc (.lconst 1,1)) rfl (by decide)
theorem m30_4 : M30 4 ls (.long J2::.long J1::st) H Q = M30 5 ls (.long (J1 - J2)::st) H Q:=w_x (dc (.lsub,1)) rfl
theorem m30_5 : M30 5 [l0,l1,.val (.int v),l3,l4,l5,l6] st H Q = M30 6 [l0,l1,.val (.int v),l3,l4,l5,l6] (.int v::st) H Q:=w_x (dc (.iload_n 2,1)) rfl
theorem m30_6 : M30 6 [l0,l1,l2,.val (.int v),l4,l5,l6] st H Q = M30 7 [l0,l1,l2,.val (.int v),l4,l5,l6] (.int v::st) H Q:=w_x (dc (.iload_n 3,1)) rfl
theorem m30_7 : M30 7 ls (.int y::.int x::st) H Q = M30 8 ls (.int (x * y)::st) H Q:=w_x (dc (.imul,1)) rfl
theorem m30_8 : M30 8 ls (.int y::.long J1::st) H Q = M30 9 ls (.long (J1 <<< (y.toInt64 &&& 63))::st) H Q:=w_x (dc (.lshl,1)) rfl
theorem m30_9 : M30 9 [l0,l1,l2,l3,l4,.unset,.unset] (.long J1::st) H Q = M30 11 [l0,l1,l2,l3,l4,.val (.long J1),.second] st H Q:=w_x (dc (.lstore 5,2)) rfl
theorem m30_11 : M30 11 [.val (.long J1),l1,l2,l3,l4,l5,l6] st H Q = M30 12 [.val (.long J1),l1,l2,l3,l4,l5,l6] (.long J1::st) H Q:=w_x (dc (.lload_n 0,1)) rfl
theorem m30_12 : M30 12 [l0,l1,l2,l3,l4,.val (.long J1),l6] st H Q = M30 14 [l0,l1,l2,l3,l4,.val (.long J1),l6] (.long J1::st) H Q:=w_x (dc (.lload 5,2)) rfl
theorem m30_14 : M30 14 ls st H Q = M30 17 ls (.long (-1)::st) H Q:=w_ldc2 (dc (.ldc2_w 17,3)) (by decide +kernel)
theorem m30_17 : M30 17 ls (.long J2::.long J1::st) H Q = M30 18 ls (.long (J1 ^^^ J2)::st) H Q:=w_x (dc (.lxor,1)) rfl
theorem m30_18 : M30 18 ls (.long J2::.long J1::st) H Q = M30 19 ls (.long (J1 &&& J2)::st) H Q:=w_x (dc (.land,1)) rfl
theorem m30_19 : M30 19 [l0,l1,l2,l3,.val (.int v),l5,l6] st H Q = M30 21 [l0,l1,l2,l3,.val (.int v),l5,l6] (.int v::st) H Q:=w_x (dc (.iload 4,2)) rfl
theorem m30_21 : M30 21 ls (.int x::st) H Q = M30 22 ls (.long x.toInt64::st) H Q:=w_x (dc (.i2l,1)) rfl
theorem m30_22 : M30 22 [l0,l1,.val (.int v),l3,l4,l5,l6] st H Q = M30 23 [l0,l1,.val (.int v),l3,l4,l5,l6] (.int v::st) H Q:=w_x (dc (.iload_n 2,1)) rfl
theorem m30_23 : M30 23 [l0,l1,l2,.val (.int v),l4,l5,l6] st H Q = M30 24 [l0,l1,l2,.val (.int v),l4,l5,l6] (.int v::st) H Q:=w_x (dc (.iload_n 3,1)) rfl
theorem m30_24 : M30 24 ls (.int y::.int x::st) H Q = M30 25 ls (.int (x * y)::st) H Q:=w_x (dc (.imul,1)) rfl
theorem m30_25 : M30 25 ls (.int y::.long J1::st) H Q = M30 26 ls (.long (J1 <<< (y.toInt64 &&& 63))::st) H Q:=w_x (dc (.lshl,1)) rfl
theorem m30_26 : M30 26 [l0,l1,l2,l3,l4,.val (.long J1),l6] st H Q = M30 28 [l0,l1,l2,l3,l4,.val (.long J1),l6] (.long J1::st) H Q:=w_x (dc (.lload 5,2)) rfl
theorem m30_28 : M30 28 ls (.long J2::.long J1::st) H Q = M30 29 ls (.long (J1 &&& J2)::st) H Q:=w_x (dc (.land,1)) rfl
theorem m30_29 : M30 29 ls (.long J2::.long J1::st) H Q = M30 30 ls (.long (J1 ||| J2)::st) H Q:=w_x (dc (.lor,1)) rfl
theorem m30_30 : M30 30 ls [.long J1] H Q = Q (some (.long J1)) H:=w_lret (dc (.lreturn,1)) rfl
theorem m31_0 : M31 0 [.val (.long J1),l1,l2,l3] st H Q = M31 1 [.val (.long J1),l1,l2,l3] (.long J1::st) H Q:=w_x (dc (.lload_n 0,1)) rfl
theorem m31_1 : M31 1 [l0,l1,.val (.int v),l3] st H Q = M31 2 [l0,l1,.val (.int v),l3] (.int v::st) H Q:=w_x (dc (.iload_n 2,1)) rfl
theorem m31_2 : M31 2 [l0,l1,l2,.val (.int v)] st H Q = M31 3 [l0,l1,l2,.val (.int v)] (.int v::st) H Q:=w_x (dc (.iload_n 3,1)) rfl
theorem m31_3 : M31 3 ls (.int y::.int x::st) H Q = M31 4 ls (.int (x * y)::st) H Q:=w_x (dc (.imul,1)) rfl
theorem m31_4 : M31 4 ls (.int y::.long J1::st) H Q = M31 5 ls (.long (XT.ushrL J1 y)::st) H Q:=w_x (dc (.lushr,1)) rfl
theorem m31_5 : M31 5 ls st H Q = M31 6 ls (.long 1::st) H Q:=w_con (dc (.lconst 1,1)) rfl (by decide)
theorem m31_6 : M31 6 [l0,l1,l2,.val (.int v)] st H Q = M31 7 [l0,l1,l2,.val (.int v)] (.int v::st) H Q:=w_x (dc (.iload_n 3,1)) rfl
theorem m31_7 : M31 7 ls (.int y::.long J1::st) H Q = M31 8 ls (.long (J1 <<< (y.toInt64 &&& 63))::st) H Q:=w_x (dc (.lshl,1)) rfl
theorem m31_8 : M31 8 ls st H Q = M31 9 ls (.long 1::st) H Q:=w_con (dc (.lconst 1,1)) rfl (by decide)
theorem m31_9 : M31 9 ls (.long J2::.long J1::st) H Q = M31 10 ls (.long (J1 - J2)::st) H Q:=w_x (dc (.lsub,1)) rfl
theorem m31_10 : M31 10 ls (.long J2::.long J1::st) H Q = M31 11 ls (.long (J1 &&& J2)::st) H Q:=w_x (dc (.land,1)) rfl
theorem m31_11 : M31 11 ls (.long J1::st) H Q = M31 12 ls (.int J1.toInt32::st) H Q:=w_x (dc (.l2i,1)) rfl
theorem m31_12 : M31 12 ls (.int z::st) H Q = Q (some (.int z)) H:=w_iret (dc (.ireturn,1)) rfl
theorem m32_0 : M32 0 ls st H Q = M32 1 ls (.long 0::st) H Q:=w_con (dc (.lconst 0,1)) rfl (by decide)
theorem m32_1 : M32 1 [l0,l1,l2,l3,.unset,.unset,l6,l7,l8,l9,l10,l11] (.long J1::st) H Q = M32 3 [l0,l1,l2,l3,.val (.long J1),.second,l6,l7,l8,l9,l10,l11] st H Q:=w_x (dc (.lstore 4,2)) rfl
theorem m32_3 : M32 3 ls st H Q = M32 4 ls (.int 0::st) H Q:=w_con (dc (.iconst 0,1)) rfl (by decide)
theorem m32_4u : M32 4 [l0,l1,l2,l3,l4,l5,.unset,l7,l8,l9,l10,l11] ((.int v)::st) H Q = M32 6 [l0,l1,l2,l3,l4,l5,.val (.int v),l7,l8,l9,l10,l11] st H Q:=w_st (i:=6) (p:=isI) (dc (.istore 6,2)) rfl rfl rfl rfl rfl rfl
theorem m32_6 : M32 6 [l0,l1,l2,l3,l4,l5,.val (.int v),l7,l8,l9,l10,l11] st H Q = M32 8 [l0,l1,l2,l3,l4,l5,.val (.int v),l7,l8,l9,l10,l11] (.int v::st) H Q:=w_x (dc (.iload 6,2)) rfl
theorem m32_8 : M32 8 [l0,.val (.int v),l2,l3,l4,l5,l6,l7,l8,l9,l10,l11] st H Q = M32 9 [l0,.val (.int v),l2,l3,l4,l5,l6,l7,l8,l9,l10,l11] (.int v::st) H Q:=w_x (dc (.iload_n 1,1)) rfl
theorem m32_9 : M32 9 ls (.int y::.int x::st) H Q = if x < y then M32 12 ls st H Q else M32 32 ls st H Q:=w_icmpN (dc (.if_icmp .ge 23,3)) (i_ge x y) rfl
theorem m32_12 : M32 12 [l0,l1,l2,l3,.val (.long J1),l5,l6,l7,l8,l9,l10,l11] st H Q = M32 14 [l0,l1,l2,l3,.val (.long J1),l5,l6,l7,l8,l9,l10,l11] (.long J1::st) H Q:=w_x (dc (.lload 4,2)) rfl
theorem m32_14 : M32 14 [l0,l1,l2,l3,l4,l5,.val (.int v),l7,l8,l9,l10,l11] st H Q = M32 16 [l0,l1,l2,l3,l4,l5,.val (.int v),l7,l8,l9,l10,l11] (.int v::st) H Q:=w_x (dc (.iload 6,2)) rfl
theorem m32_16 : M32 16 ls st H Q = M32 18 ls (.int 12::st) H Q:=w_con (dc (.bipush 12,2)) rfl (by decide)
theorem m32_18 : M32 18 ls st H Q = M32 21 ls (.int 4095::st) H Q:=w_con (dc (.sipush 4095,3)) rfl (by decide)
theorem cr32_22 : sR tables_1 dn y32 22 = some (y30,method_9_code,7,(some .long),4,14):=sR_of (cR_of (by decide +kernel) rc_30 dn_30 dn_32 (sig:=⟨[.long,.int,.int,.int],some .long⟩) (by decide +kernel) (by decide +kernel) rfl rfl) (by decide +kernel)
theorem m32_21 (a0 : Int64) (a1 : Int32) (a2 : Int32) (a3 : Int32) : M32 21 ls [.int a3,.int a2,.int a1,.long a0] H Q = M30 0 [.val (.long a0),.second,.val (.int a1),.val (.int a2),.val (.int a3),.unset,.unset] [] H (fun v H1 => M32 24 ls (v.toList ++ []) H1 Q):=w_stat (as:=[.int a3,.int a2,.int a1,.long a0]) (rest:=[]) (dc (.invokestatic 22,3)) cr32_22 rfl (Nat.le_of_ble_eq_true rfl) (by show 5≤7; omega) rfl
theorem m32_24 : M32 24 [l0,l1,l2,l3,.val (.long J2),.second,l6,l7,l8,l9,l10,l11] (.long J1::st) H Q = M32 26 [l0,l1,l2,l3,.val (.long J1),.second,l6,l7,l8,l9,l10,l11] st H Q:=w_x (dc (.lstore 4,2)) rfl
theorem m32_26 : M32 26 [l0,l1,l2,l3,l4,l5,.val (.int v),l7,l8,l9,l10,l11] st H Q = M32 29 [l0,l1,l2,l3,l4,l5,.val (.int (v + 1)),l7,l8,l9,l10,l11] st H Q:=w_iinc (dc (.iinc 6 1,3)) rfl (by decide) rfl
theorem m32_29 : M32 29 ls st H Q = M32 6 ls st H Q:=w_x (dc (.goto (-23),3)) rfl
theorem m32_32 : M32 32 [l0,l1,l2,l3,.val (.long J1),l5,l6,l7,l8,l9,l10,l11] st H Q = M32 34 [l0,l1,l2,l3,.val (.long J1),l5,l6,l7,l8,l9,l10,l11] (.long J1::st) H Q:=w_x (dc (.lload 4,2)) rfl
theorem m32_34 : M32 34 [l0,l1,l2,.val (.int v),l4,l5,l6,l7,l8,l9,l10,l11] st H Q = M32 35 [l0,l1,l2,.val (.int v),l4,l5,l6,l7,l8,l9,l10,l11] (.int v::st) H Q:=w_x (dc (.iload_n 3,1)) rfl
theorem m32_35 : M32 35 ls st H Q = M32 37 ls (.int 12::st) H Q:=w_con (dc (.bipush 12,2)) rfl (by decide)
theorem m32_37 : M32 37 ls st H Q = M32 40 ls (.int 128::st) H Q:=w_con (dc (.sipush 128,3)) rfl (by decide)
theorem m32_40 : M32 40 [.val (.ref r),l1,l2,l3,l4,l5,l6,l7,l8,l9,l10,l11] st H Q = M32 41 [.val (.ref r),l1,l2,l3,l4,l5,l6,l7,l8,l9,l10,l11] (.ref r::st) H Q:=w_x (dc (.aload_n 0,1)) rfl
theorem m32_41 : M32 41 [l0,l1,l2,.val (.int v),l4,l5,l6,l7,l8,l9,l10,l11] st H Q = M32 42 [l0,l1,l2,.val (.int v),l4,l5,l6,l7,l8,l9,l10,l11] (.int v::st) H Q:=w_x (dc (.iload_n 3,1)) rfl
theorem cr32_19 : sR tables_1 dn y32 19 = some (y25,method_4_code,2,(some .int),2,5):=sR_of (cR_of (by decide +kernel) rc_25 dn_25 dn_32 (sig:=⟨[.array .int,.int],some .int⟩) (by decide +kernel) (by decide +kernel) rfl rfl) (by decide +kernel)
theorem m32_42 (a0 : Nat) (a1 : Int32) (u0 : Int32) (u1 : Int32) (u2 : Int32) (u3 : Int64) : M32 42 ls [.int a1,.ref a0,.int u0,.int u1,.int u2,.long u3] H Q = M25 0 [.val (.ref a0),.val (.int a1)] [] H (fun v H1 => M32 45 ls (v.toList ++ [.int u0,.int u1,.int u2,.long u3]) H1 Q):=w_stat (as:=[.int a1,.ref a0]) (rest:=[.int u0,.int u1,.int u2,.long u3]) (dc (.invokestatic 19,3)) cr32_19 rfl (Nat.le_of_ble_eq_true rfl) (by show 2≤2; omega) rfl
theorem m32_45 : M32 45 ls (.int y::.int x::st) H Q = M32 46 ls (.int (x - y)::st) H Q:=w_x (dc (.isub,1)) rfl
theorem m32_46 (a0 : Int64) (a1 : Int32) (a2 : Int32) (a3 : Int32) : M32 46 ls [.int a3,.int a2,.int a1,.long a0] H Q = M30 0 [.val (.long a0),.second,.val (.int a1),.val (.int a2),.val (.int a3),.unset,.unset] [] H (fun v H1 => M32 49 ls (v.toList ++ []) H1 Q):=w_stat (as:=[.int a3,.int a2,.int a1,.long a0]) (rest:=[]) (dc (.invokestatic 22,3)) cr32_22 rfl (Nat.le_of_ble_eq_true rfl) (by show 5≤7; omega) rfl
theorem m32_49 : M32 49 [l0,l1,l2,l3,.val (.long J2),.second,l6,l7,l8,l9,l10,l11] (.long J1::st) H Q = M32 51 [l0,l1,l2,l3,.val (.long J1),.second,l6,l7,l8,l9,l10,l11] st H Q:=w_x (dc (.lstore 4,2)) rfl
theorem m32_51 : M32 51 ls st H Q = M32 52 ls (.int 0::st) H Q:=w_con (dc (.iconst 0,1)) rfl (by decide)
theorem m32_52i : M32 52 [l0,l1,l2,l3,l4,l5,.val (.int z),l7,l8,l9,l10,l11] ((.int v)::st) H Q = M32 54 [l0,l1,l2,l3,l4,l5,.val (.int v),l7,l8,l9,l10,l11] st H Q:=w_st (i:=6) (p:=isI) (dc (.istore 6,2)) rfl rfl rfl rfl rfl rfl
theorem m32_54 : M32 54 [l0,l1,l2,l3,l4,l5,.val (.int v),l7,l8,l9,l10,l11] st H Q = M32 56 [l0,l1,l2,l3,l4,l5,.val (.int v),l7,l8,l9,l10,l11] (.int v::st) H Q:=w_x (dc (.iload 6,2)) rfl
theorem m32_56 : M32 56 [l0,.val (.int v),l2,l3,l4,l5,l6,l7,l8,l9,l10,l11] st H Q = M32 57 [l0,.val (.int v),l2,l3,l4,l5,l6,l7,l8,l9,l10,l11] (.int v::st) H Q:=w_x (dc (.iload_n 1,1)) rfl
theorem m32_57 : M32 57 ls (.int y::.int x::st) H Q = if x < y then M32 60 ls st H Q else M32 170 ls st H Q:=w_icmpN (dc (.if_icmp .ge 113,3)) (i_ge x y) rfl
theorem m32_60 : M32 60 ls st H Q = M32 61 ls (.int 0::st) H Q:=w_con (dc (.iconst 0,1)) rfl (by decide)
theorem m32_61u : M32 61 [l0,l1,l2,l3,l4,l5,l6,.unset,l8,l9,l10,l11] ((.int v)::st) H Q = M32 63 [l0,l1,l2,l3,l4,l5,l6,.val (.int v),l8,l9,l10,l11] st H Q:=w_st (i:=7) (p:=isI) (dc (.istore 7,2)) rfl rfl rfl rfl rfl rfl
theorem m32_61i : M32 61 [l0,l1,l2,l3,l4,l5,l6,.val (.int z),l8,l9,l10,l11] ((.int v)::st) H Q = M32 63 [l0,l1,l2,l3,l4,l5,l6,.val (.int v),l8,l9,l10,l11] st H Q:=w_st (i:=7) (p:=isI) (dc (.istore 7,2)) rfl rfl rfl rfl rfl rfl
theorem m32_61g (h : okS l7) : M32 61 [l0,l1,l2,l3,l4,l5,l6,l7,l8,l9,l10,l11] ((.int v)::st) H Q = M32 63 [l0,l1,l2,l3,l4,l5,l6,.val (.int v),l8,l9,l10,l11] st H Q:=by rcases h with rfl | ⟨z,rfl⟩ <;> first | exact m32_61u | exact m32_61i
theorem m32_63 : M32 63 [l0,l1,l2,l3,l4,l5,l6,.val (.int v),l8,l9,l10,l11] st H Q = M32 65 [l0,l1,l2,l3,l4,l5,l6,.val (.int v),l8,l9,l10,l11] (.int v::st) H Q:=w_x (dc (.iload 7,2)) rfl
theorem m32_65 : M32 65 [l0,l1,.val (.int v),l3,l4,l5,l6,l7,l8,l9,l10,l11] st H Q = M32 66 [l0,l1,.val (.int v),l3,l4,l5,l6,l7,l8,l9,l10,l11] (.int v::st) H Q:=w_x (dc (.iload_n 2,1)) rfl
theorem m32_66 : M32 66 ls (.int y::.int x::st) H Q = if x < y then M32 69 ls st H Q else M32 164 ls st H Q:=w_icmpN (dc (.if_icmp .ge 98,3)) (i_ge x y) rfl
theorem m32_69 : M32 69 [.val (.ref r),l1,l2,l3,l4,l5,l6,l7,l8,l9,l10,l11] st H Q = M32 70 [.val (.ref r),l1,l2,l3,l4,l5,l6,l7,l8,l9,l10,l11] (.ref r::st) H Q:=w_x (dc (.aload_n 0,1)) rfl
theorem m32_70 : M32 70 [l0,.val (.int v),l2,l3,l4,l5,l6,l7,l8,l9,l10,l11] st H Q = M32 71 [l0,.val (.int v),l2,l3,l4,l5,l6,l7,l8,l9,l10,l11] (.int v::st) H Q:=w_x (dc (.iload_n 1,1)) rfl
theorem m32_71 : M32 71 [l0,l1,l2,l3,l4,l5,l6,.val (.int v),l8,l9,l10,l11] st H Q = M32 73 [l0,l1,l2,l3,l4,l5,l6,.val (.int v),l8,l9,l10,l11] (.int v::st) H Q:=w_x (dc (.iload 7,2)) rfl
theorem cr32_26 : sR tables_1 dn y32 26 = some (y26,method_5_code,3,(some .int),3,4):=sR_of (cR_of (by decide +kernel) rc_26 dn_26 dn_32 (sig:=⟨[.array .int,.int,.int],some .int⟩) (by decide +kernel) (by decide +kernel) rfl rfl) (by decide +kernel)
theorem m32_73 (a0 : Nat) (a1 : Int32) (a2 : Int32) : M32 73 ls [.int a2,.int a1,.ref a0] H Q = M26 0 [.val (.ref a0),.val (.int a1),.val (.int a2)] [] H (fun v H1 => M32 76 ls (v.toList ++ []) H1 Q):=w_stat (as:=[.int a2,.int a1,.ref a0]) (rest:=[]) (dc (.invokestatic 26,3)) cr32_26 rfl (Nat.le_of_ble_eq_true rfl) (by show 3≤3; omega) rfl
theorem m32_76u : M32 76 [l0,l1,l2,l3,l4,l5,l6,l7,.unset,l9,l10,l11] ((.int v)::st) H Q = M32 78 [l0,l1,l2,l3,l4,l5,l6,l7,.val (.int v),l9,l10,l11] st H Q:=w_st (i:=8) (p:=isI) (dc (.istore 8,2)) rfl rfl rfl rfl rfl rfl
theorem m32_76i : M32 76 [l0,l1,l2,l3,l4,l5,l6,l7,.val (.int z),l9,l10,l11] ((.int v)::st) H Q = M32 78 [l0,l1,l2,l3,l4,l5,l6,l7,.val (.int v),l9,l10,l11] st H Q:=w_st (i:=8) (p:=isI) (dc (.istore 8,2)) rfl rfl rfl rfl rfl rfl
theorem m32_76g (h : okS l8) : M32 76 [l0,l1,l2,l3,l4,l5,l6,l7,l8,l9,l10,l11] ((.int v)::st) H Q = M32 78 [l0,l1,l2,l3,l4,l5,l6,l7,.val (.int v),l9,l10,l11] st H Q:=by rcases h with rfl | ⟨z,rfl⟩ <;> first | exact m32_76u | exact m32_76i
theorem m32_78 : M32 78 [.val (.ref r),l1,l2,l3,l4,l5,l6,l7,l8,l9,l10,l11] st H Q = M32 79 [.val (.ref r),l1,l2,l3,l4,l5,l6,l7,l8,l9,l10,l11] (.ref r::st) H Q:=w_x (dc (.aload_n 0,1)) rfl
theorem m32_79 : M32 79 [l0,.val (.int v),l2,l3,l4,l5,l6,l7,l8,l9,l10,l11] st H Q = M32 80 [l0,.val (.int v),l2,l3,l4,l5,l6,l7,l8,l9,l10,l11] (.int v::st) H Q:=w_x (dc (.iload_n 1,1)) rfl
theorem m32_80 : M32 80 [l0,l1,l2,l3,l4,l5,l6,.val (.int v),l8,l9,l10,l11] st H Q = M32 82 [l0,l1,l2,l3,l4,l5,l6,.val (.int v),l8,l9,l10,l11] (.int v::st) H Q:=w_x (dc (.iload 7,2)) rfl
theorem cr32_30 : sR tables_1 dn y32 30 = some (y27,method_6_code,3,(some .int),3,4):=sR_of (cR_of (by decide +kernel) rc_27 dn_27 dn_32 (sig:=⟨[.array .int,.int,.int],some .int⟩) (by decide +kernel) (by decide +kernel) rfl rfl) (by decide +kernel)
theorem m32_82 (a0 : Nat) (a1 : Int32) (a2 : Int32) : M32 82 ls [.int a2,.int a1,.ref a0] H Q = M27 0 [.val (.ref a0),.val (.int a1),.val (.int a2)] [] H (fun v H1 => M32 85 ls (v.toList ++ []) H1 Q):=w_stat (as:=[.int a2,.int a1,.ref a0]) (rest:=[]) (dc (.invokestatic 30,3)) cr32_30 rfl (Nat.le_of_ble_eq_true rfl) (by show 3≤3; omega) rfl
theorem m32_85u : M32 85 [l0,l1,l2,l3,l4,l5,l6,l7,l8,.unset,l10,l11] ((.int v)::st) H Q = M32 87 [l0,l1,l2,l3,l4,l5,l6,l7,l8,.val (.int v),l10,l11] st H Q:=w_st (i:=9) (p:=isI) (dc (.istore 9,2)) rfl rfl rfl rfl rfl rfl
theorem m32_85i : M32 85 [l0,l1,l2,l3,l4,l5,l6,l7,l8,.val (.int z),l10,l11] ((.int v)::st) H Q = M32 87 [l0,l1,l2,l3,l4,l5,l6,l7,l8,.val (.int v),l10,l11] st H Q:=w_st (i:=9) (p:=isI) (dc (.istore 9,2)) rfl rfl rfl rfl rfl rfl
theorem m32_85g (h : okS l9) : M32 85 [l0,l1,l2,l3,l4,l5,l6,l7,l8,l9,l10,l11] ((.int v)::st) H Q = M32 87 [l0,l1,l2,l3,l4,l5,l6,l7,l8,.val (.int v),l10,l11] st H Q:=by rcases h with rfl | ⟨z,rfl⟩ <;> first | exact m32_85u | exact m32_85i
theorem m32_87 : M32 87 [l0,l1,l2,l3,.val (.long J1),l5,l6,l7,l8,l9,l10,l11] st H Q = M32 89 [l0,l1,l2,l3,.val (.long J1),l5,l6,l7,l8,l9,l10,l11] (.long J1::st) H Q:=w_x (dc (.lload 4,2)) rfl
theorem m32_89 : M32 89 [l0,l1,l2,l3,l4,l5,l6,l7,.val (.int v),l9,l10,l11] st H Q = M32 91 [l0,l1,l2,l3,l4,l5,l6,l7,.val (.int v),l9,l10,l11] (.int v::st) H Q:=w_x (dc (.iload 8,2)) rfl
theorem m32_91 : M32 91 ls st H Q = M32 93 ls (.int 12::st) H Q:=w_con (dc (.bipush 12,2)) rfl (by decide)
theorem cr32_33 : sR tables_1 dn y32 33 = some (y31,method_8_code,4,(some .int),3,17):=sR_of (cR_of (by decide +kernel) rc_31 dn_31 dn_32 (sig:=⟨[.long,.int,.int],some .int⟩) (by decide +kernel) (by decide +kernel) rfl rfl) (by decide +kernel)
theorem m32_93 (a0 : Int64) (a1 : Int32) (a2 : Int32) : M32 93 ls [.int a2,.int a1,.long a0] H Q = M31 0 [.val (.long a0),.second,.val (.int a1),.val (.int a2)] [] H (fun v H1 => M32 96 ls (v.toList ++ []) H1 Q):=w_stat (as:=[.int a2,.int a1,.long a0]) (rest:=[]) (dc (.invokestatic 33,3)) cr32_33 rfl (Nat.le_of_ble_eq_true rfl) (by show 4≤4; omega) rfl
theorem m32_96u : M32 96 [l0,l1,l2,l3,l4,l5,l6,l7,l8,l9,.unset,l11] ((.int v)::st) H Q = M32 98 [l0,l1,l2,l3,l4,l5,l6,l7,l8,l9,.val (.int v),l11] st H Q:=w_st (i:=10) (p:=isI) (dc (.istore 10,2)) rfl rfl rfl rfl rfl rfl
theorem m32_96i : M32 96 [l0,l1,l2,l3,l4,l5,l6,l7,l8,l9,.val (.int z),l11] ((.int v)::st) H Q = M32 98 [l0,l1,l2,l3,l4,l5,l6,l7,l8,l9,.val (.int v),l11] st H Q:=w_st (i:=10) (p:=isI) (dc (.istore 10,2)) rfl rfl rfl rfl rfl rfl
theorem m32_96g (h : okS l10) : M32 96 [l0,l1,l2,l3,l4,l5,l6,l7,l8,l9,l10,l11] ((.int v)::st) H Q = M32 98 [l0,l1,l2,l3,l4,l5,l6,l7,l8,l9,.val (.int v),l11] st H Q:=by rcases h with rfl | ⟨z,rfl⟩ <;> first | exact m32_96u | exact m32_96i
theorem m32_98 : M32 98 [l0,l1,l2,l3,l4,l5,l6,l7,l8,l9,.val (.int v),l11] st H Q = M32 100 [l0,l1,l2,l3,l4,l5,l6,l7,l8,l9,.val (.int v),l11] (.int v::st) H Q:=w_x (dc (.iload 10,2)) rfl
theorem m32_100 : M32 100 ls st H Q = M32 103 ls (.int 4095::st) H Q:=w_con (dc (.sipush 4095,3)) rfl (by decide)
theorem m32_103 : M32 103 ls (.int y::.int x::st) H Q = if x = y then M32 106 ls st H Q else M32 109 ls st H Q:=w_icmpN (dc (.if_icmp .ne 6,3)) (i_ne x y) rfl
theorem m32_106 : M32 106 ls st H Q = M32 158 ls st H Q:=w_x (dc (.goto 52,3)) rfl
theorem m32_109 : M32 109 [l0,l1,l2,l3,l4,l5,l6,l7,l8,l9,.val (.int v),l11] st H Q = M32 111 [l0,l1,l2,l3,l4,l5,l6,l7,l8,l9,.val (.int v),l11] (.int v::st) H Q:=w_x (dc (.iload 10,2)) rfl
theorem m32_111 : M32 111 ls st H Q = M32 114 ls (.int 128::st) H Q:=w_con (dc (.sipush 128,3)) rfl (by decide)
theorem m32_114 : M32 114 [.val (.ref r),l1,l2,l3,l4,l5,l6,l7,l8,l9,l10,l11] st H Q = M32 115 [.val (.ref r),l1,l2,l3,l4,l5,l6,l7,l8,l9,l10,l11] (.ref r::st) H Q:=w_x (dc (.aload_n 0,1)) rfl
theorem m32_115 : M32 115 [l0,l1,l2,l3,l4,l5,l6,.val (.int v),l8,l9,l10,l11] st H Q = M32 117 [l0,l1,l2,l3,l4,l5,l6,.val (.int v),l8,l9,l10,l11] (.int v::st) H Q:=w_x (dc (.iload 7,2)) rfl
theorem cr32_37 : sR tables_1 dn y32 37 = some (y28,method_7_code,2,(some .int),2,5):=sR_of (cR_of (by decide +kernel) rc_28 dn_28 dn_32 (sig:=⟨[.array .int,.int],some .int⟩) (by decide +kernel) (by decide +kernel) rfl rfl) (by decide +kernel)
theorem m32_117 (a0 : Nat) (a1 : Int32) (u0 : Int32) (u1 : Int32) : M32 117 ls [.int a1,.ref a0,.int u0,.int u1] H Q = M28 0 [.val (.ref a0),.val (.int a1)] [] H (fun v H1 => M32 120 ls (v.toList ++ [.int u0,.int u1]) H1 Q):=w_stat (as:=[.int a1,.ref a0]) (rest:=[.int u0,.int u1]) (dc (.invokestatic 37,3)) cr32_37 rfl (Nat.le_of_ble_eq_true rfl) (by show 2≤2; omega) rfl
theorem m32_120 : M32 120 ls (.int y::.int x::st) H Q = M32 121 ls (.int (x * y)::st) H Q:=w_x (dc (.imul,1)) rfl
theorem m32_121 : M32 121 ls (.int y::.int x::st) H Q = M32 122 ls (.int (x + y)::st) H Q:=w_x (dc (.iadd,1)) rfl
theorem m32_122 : M32 122 [.val (.ref r),l1,l2,l3,l4,l5,l6,l7,l8,l9,l10,l11] st H Q = M32 123 [.val (.ref r),l1,l2,l3,l4,l5,l6,l7,l8,l9,l10,l11] (.ref r::st) H Q:=w_x (dc (.aload_n 0,1)) rfl
theorem m32_123 : M32 123 [l0,l1,l2,l3,l4,l5,l6,l7,l8,.val (.int v),l10,l11] st H Q = M32 125 [l0,l1,l2,l3,l4,l5,l6,l7,l8,.val (.int v),l10,l11] (.int v::st) H Q:=w_x (dc (.iload 9,2)) rfl
theorem m32_125 (a0 : Nat) (a1 : Int32) (u0 : Int32) : M32 125 ls [.int a1,.ref a0,.int u0] H Q = M25 0 [.val (.ref a0),.val (.int a1)] [] H (fun v H1 => M32 128 ls (v.toList ++ [.int u0]) H1 Q):=w_stat (as:=[.int a1,.ref a0]) (rest:=[.int u0]) (dc (.invokestatic 19,3)) cr32_19 rfl (Nat.le_of_ble_eq_true rfl) (by show 2≤2; omega) rfl
theorem m32_128 : M32 128 ls (.int y::.int x::st) H Q = M32 129 ls (.int (x - y)::st) H Q:=w_x (dc (.isub,1)) rfl
theorem m32_129u : M32 129 [l0,l1,l2,l3,l4,l5,l6,l7,l8,l9,l10,.unset] ((.int v)::st) H Q = M32 131 [l0,l1,l2,l3,l4,l5,l6,l7,l8,l9,l10,.val (.int v)] st H Q:=w_st (i:=11) (p:=isI) (dc (.istore 11,2)) rfl rfl rfl rfl rfl rfl
theorem m32_129i : M32 129 [l0,l1,l2,l3,l4,l5,l6,l7,l8,l9,l10,.val (.int z)] ((.int v)::st) H Q = M32 131 [l0,l1,l2,l3,l4,l5,l6,l7,l8,l9,l10,.val (.int v)] st H Q:=w_st (i:=11) (p:=isI) (dc (.istore 11,2)) rfl rfl rfl rfl rfl rfl
theorem m32_129g (h : okS l11) : M32 129 [l0,l1,l2,l3,l4,l5,l6,l7,l8,l9,l10,l11] ((.int v)::st) H Q = M32 131 [l0,l1,l2,l3,l4,l5,l6,l7,l8,l9,l10,.val (.int v)] st H Q:=by rcases h with rfl | ⟨z,rfl⟩ <;> first | exact m32_129u | exact m32_129i
theorem m32_131 : M32 131 [l0,l1,l2,l3,l4,l5,l6,l7,l8,l9,l10,.val (.int v)] st H Q = M32 133 [l0,l1,l2,l3,l4,l5,l6,l7,l8,l9,l10,.val (.int v)] (.int v::st) H Q:=w_x (dc (.iload 11,2)) rfl
theorem m32_133 : M32 133 [l0,l1,l2,l3,.val (.long J1),l5,l6,l7,l8,l9,l10,l11] st H Q = M32 135 [l0,l1,l2,l3,.val (.long J1),l5,l6,l7,l8,l9,l10,l11] (.long J1::st) H Q:=w_x (dc (.lload 4,2)) rfl
theorem m32_135 : M32 135 [l0,l1,l2,l3,l4,l5,l6,l7,l8,.val (.int v),l10,l11] st H Q = M32 137 [l0,l1,l2,l3,l4,l5,l6,l7,l8,.val (.int v),l10,l11] (.int v::st) H Q:=w_x (dc (.iload 9,2)) rfl
theorem m32_137 : M32 137 ls st H Q = M32 139 ls (.int 12::st) H Q:=w_con (dc (.bipush 12,2)) rfl (by decide)
theorem m32_139 (a0 : Int64) (a1 : Int32) (a2 : Int32) (u0 : Int32) : M32 139 ls [.int a2,.int a1,.long a0,.int u0] H Q = M31 0 [.val (.long a0),.second,.val (.int a1),.val (.int a2)] [] H (fun v H1 => M32 142 ls (v.toList ++ [.int u0]) H1 Q):=w_stat (as:=[.int a2,.int a1,.long a0]) (rest:=[.int u0]) (dc (.invokestatic 33,3)) cr32_33 rfl (Nat.le_of_ble_eq_true rfl) (by show 4≤4; omega) rfl
theorem m32_142 : M32 142 ls (.int y::.int x::st) H Q = if x < y then M32 145 ls st H Q else M32 158 ls st H Q:=w_icmpN (dc (.if_icmp .ge 16,3)) (i_ge x y) rfl
theorem m32_145 : M32 145 [l0,l1,l2,l3,.val (.long J1),l5,l6,l7,l8,l9,l10,l11] st H Q = M32 147 [l0,l1,l2,l3,.val (.long J1),l5,l6,l7,l8,l9,l10,l11] (.long J1::st) H Q:=w_x (dc (.lload 4,2)) rfl
theorem m32_147 : M32 147 [l0,l1,l2,l3,l4,l5,l6,l7,l8,.val (.int v),l10,l11] st H Q = M32 149 [l0,l1,l2,l3,l4,l5,l6,l7,l8,.val (.int v),l10,l11] (.int v::st) H Q:=w_x (dc (.iload 9,2)) rfl
theorem m32_149 : M32 149 ls st H Q = M32 151 ls (.int 12::st) H Q:=w_con (dc (.bipush 12,2)) rfl (by decide)
theorem m32_151 : M32 151 [l0,l1,l2,l3,l4,l5,l6,l7,l8,l9,l10,.val (.int v)] st H Q = M32 153 [l0,l1,l2,l3,l4,l5,l6,l7,l8,l9,l10,.val (.int v)] (.int v::st) H Q:=w_x (dc (.iload 11,2)) rfl
theorem m32_153 (a0 : Int64) (a1 : Int32) (a2 : Int32) (a3 : Int32) : M32 153 ls [.int a3,.int a2,.int a1,.long a0] H Q = M30 0 [.val (.long a0),.second,.val (.int a1),.val (.int a2),.val (.int a3),.unset,.unset] [] H (fun v H1 => M32 156 ls (v.toList ++ []) H1 Q):=w_stat (as:=[.int a3,.int a2,.int a1,.long a0]) (rest:=[]) (dc (.invokestatic 22,3)) cr32_22 rfl (Nat.le_of_ble_eq_true rfl) (by show 5≤7; omega) rfl
theorem m32_156 : M32 156 [l0,l1,l2,l3,.val (.long J2),.second,l6,l7,l8,l9,l10,l11] (.long J1::st) H Q = M32 158 [l0,l1,l2,l3,.val (.long J1),.second,l6,l7,l8,l9,l10,l11] st H Q:=w_x (dc (.lstore 4,2)) rfl
theorem m32_158 : M32 158 [l0,l1,l2,l3,l4,l5,l6,.val (.int v),l8,l9,l10,l11] st H Q = M32 161 [l0,l1,l2,l3,l4,l5,l6,.val (.int (v + 1)),l8,l9,l10,l11] st H Q:=w_iinc (dc (.iinc 7 1,3)) rfl (by decide) rfl
theorem m32_161 : M32 161 ls st H Q = M32 63 ls st H Q:=w_x (dc (.goto (-98),3)) rfl
theorem m32_164 : M32 164 [l0,l1,l2,l3,l4,l5,.val (.int v),l7,l8,l9,l10,l11] st H Q = M32 167 [l0,l1,l2,l3,l4,l5,.val (.int (v + 1)),l7,l8,l9,l10,l11] st H Q:=w_iinc (dc (.iinc 6 1,3)) rfl (by decide) rfl
theorem m32_167 : M32 167 ls st H Q = M32 54 ls st H Q:=w_x (dc (.goto (-113),3)) rfl
theorem m32_170 : M32 170 [l0,l1,l2,l3,.val (.long J1),l5,l6,l7,l8,l9,l10,l11] st H Q = M32 172 [l0,l1,l2,l3,.val (.long J1),l5,l6,l7,l8,l9,l10,l11] (.long J1::st) H Q:=w_x (dc (.lload 4,2)) rfl
theorem m32_172 : M32 172 ls [.long J1] H Q = Q (some (.long J1)) H:=w_lret (dc (.lreturn,1)) rfl
theorem m33_0 : M33 0 ls st H Q = M33 1 ls (.long 0::st) H Q:=w_con (dc (.lconst 0,1)) rfl (by decide)
theorem m33_1 : M33 1 [l0,l1,l2,l3,.unset,.unset,l6,l7,l8,l9,l10,l11,l12,l13,l14,l15] (.long J1::st) H Q = M33 3 [l0,l1,l2,l3,.val (.long J1),.second,l6,l7,l8,l9,l10,l11,l12,l13,l14,l15] st H Q:=w_x (dc (.lstore 4,2)) rfl
theorem m33_3 : M33 3 ls st H Q = M33 4 ls (.int 0::st) H Q:=w_con (dc (.iconst 0,1)) rfl (by decide)
theorem m33_4u : M33 4 [l0,l1,l2,l3,l4,l5,.unset,l7,l8,l9,l10,l11,l12,l13,l14,l15] ((.int v)::st) H Q = M33 6 [l0,l1,l2,l3,l4,l5,.val (.int v),l7,l8,l9,l10,l11,l12,l13,l14,l15] st H Q:=w_st (i:=6) (p:=isI) (dc (.istore 6,2)) rfl rfl rfl rfl rfl rfl
theorem m33_6 : M33 6 [l0,l1,l2,l3,l4,l5,.val (.int v),l7,l8,l9,l10,l11,l12,l13,l14,l15] st H Q = M33 8 [l0,l1,l2,l3,l4,l5,.val (.int v),l7,l8,l9,l10,l11,l12,l13,l14,l15] (.int v::st) H Q:=w_x (dc (.iload 6,2)) rfl
theorem m33_8 : M33 8 [l0,.val (.int v),l2,l3,l4,l5,l6,l7,l8,l9,l10,l11,l12,l13,l14,l15] st H Q = M33 9 [l0,.val (.int v),l2,l3,l4,l5,l6,l7,l8,l9,l10,l11,l12,l13,l14,l15] (.int v::st) H Q:=w_x (dc (.iload_n 1,1)) rfl
theorem m33_9 : M33 9 ls (.int y::.int x::st) H Q = if x < y then M33 12 ls st H Q else M33 32 ls st H Q:=w_icmpN (dc (.if_icmp .ge 23,3)) (i_ge x y) rfl
theorem m33_12 : M33 12 [l0,l1,l2,l3,.val (.long J1),l5,l6,l7,l8,l9,l10,l11,l12,l13,l14,l15] st H Q = M33 14 [l0,l1,l2,l3,.val (.long J1),l5,l6,l7,l8,l9,l10,l11,l12,l13,l14,l15] (.long J1::st) H Q:=w_x (dc (.lload 4,2)) rfl
theorem m33_14 : M33 14 [l0,l1,l2,l3,l4,l5,.val (.int v),l7,l8,l9,l10,l11,l12,l13,l14,l15] st H Q = M33 16 [l0,l1,l2,l3,l4,l5,.val (.int v),l7,l8,l9,l10,l11,l12,l13,l14,l15] (.int v::st) H Q:=w_x (dc (.iload 6,2)) rfl
theorem m33_16 : M33 16 ls st H Q = M33 18 ls (.int 10::st) H Q:=w_con (dc (.bipush 10,2)) rfl (by decide)
theorem m33_18 : M33 18 ls st H Q = M33 21 ls (.int 512::st) H Q:=w_con (dc (.sipush 512,3)) rfl (by decide)
theorem cr33_22 : sR tables_1 dn y33 22 = some (y30,method_9_code,7,(some .long),4,37):=sR_of (cR_of (by decide +kernel) rc_30 dn_30 dn_33 (sig:=⟨[.long,.int,.int,.int],some .long⟩) (by decide +kernel) (by decide +kernel) rfl rfl) (by decide +kernel)
theorem m33_21 (a0 : Int64) (a1 : Int32) (a2 : Int32) (a3 : Int32) : M33 21 ls [.int a3,.int a2,.int a1,.long a0] H Q = M30 0 [.val (.long a0),.second,.val (.int a1),.val (.int a2),.val (.int a3),.unset,.unset] [] H (fun v H1 => M33 24 ls (v.toList ++ []) H1 Q):=w_stat (as:=[.int a3,.int a2,.int a1,.long a0]) (rest:=[]) (dc (.invokestatic 22,3)) cr33_22 rfl (Nat.le_of_ble_eq_true rfl) (by show 5≤7; omega) rfl
theorem m33_24 : M33 24 [l0,l1,l2,l3,.val (.long J2),.second,l6,l7,l8,l9,l10,l11,l12,l13,l14,l15] (.long J1::st) H Q = M33 26 [l0,l1,l2,l3,.val (.long J1),.second,l6,l7,l8,l9,l10,l11,l12,l13,l14,l15] st H Q:=w_x (dc (.lstore 4,2)) rfl
theorem m33_26 : M33 26 [l0,l1,l2,l3,l4,l5,.val (.int v),l7,l8,l9,l10,l11,l12,l13,l14,l15] st H Q = M33 29 [l0,l1,l2,l3,l4,l5,.val (.int (v + 1)),l7,l8,l9,l10,l11,l12,l13,l14,l15] st H Q:=w_iinc (dc (.iinc 6 1,3)) rfl (by decide) rfl
theorem m33_29 : M33 29 ls st H Q = M33 6 ls st H Q:=w_x (dc (.goto (-23),3)) rfl
theorem m33_32 : M33 32 ls st H Q = M33 33 ls (.int 0::st) H Q:=w_con (dc (.iconst 0,1)) rfl (by decide)
theorem m33_33i : M33 33 [l0,l1,l2,l3,l4,l5,.val (.int z),l7,l8,l9,l10,l11,l12,l13,l14,l15] ((.int v)::st) H Q = M33 35 [l0,l1,l2,l3,l4,l5,.val (.int v),l7,l8,l9,l10,l11,l12,l13,l14,l15] st H Q:=w_st (i:=6) (p:=isI) (dc (.istore 6,2)) rfl rfl rfl rfl rfl rfl
theorem m33_35 : M33 35 [l0,l1,l2,l3,l4,l5,.val (.int v),l7,l8,l9,l10,l11,l12,l13,l14,l15] st H Q = M33 37 [l0,l1,l2,l3,l4,l5,.val (.int v),l7,l8,l9,l10,l11,l12,l13,l14,l15] (.int v::st) H Q:=w_x (dc (.iload 6,2)) rfl
theorem m33_37 : M33 37 [l0,.val (.int v),l2,l3,l4,l5,l6,l7,l8,l9,l10,l11,l12,l13,l14,l15] st H Q = M33 38 [l0,.val (.int v),l2,l3,l4,l5,l6,l7,l8,l9,l10,l11,l12,l13,l14,l15] (.int v::st) H Q:=w_x (dc (.iload_n 1,1)) rfl
theorem m33_38 : M33 38 ls (.int y::.int x::st) H Q = if y < x then M33 278 ls st H Q else M33 41 ls st H Q:=w_icmp (dc (.if_icmp .gt 240,3)) (i_gt x y) rfl
theorem m33_41 : M33 41 ls st H Q = M33 42 ls (.int 0::st) H Q:=w_con (dc (.iconst 0,1)) rfl (by decide)
theorem m33_42u : M33 42 [l0,l1,l2,l3,l4,l5,l6,.unset,l8,l9,l10,l11,l12,l13,l14,l15] ((.int v)::st) H Q = M33 44 [l0,l1,l2,l3,l4,l5,l6,.val (.int v),l8,l9,l10,l11,l12,l13,l14,l15] st H Q:=w_st (i:=7) (p:=isI) (dc (.istore 7,2)) rfl rfl rfl rfl rfl rfl
theorem m33_42i : M33 42 [l0,l1,l2,l3,l4,l5,l6,.val (.int z),l8,l9,l10,l11,l12,l13,l14,l15] ((.int v)::st) H Q = M33 44 [l0,l1,l2,l3,l4,l5,l6,.val (.int v),l8,l9,l10,l11,l12,l13,l14,l15] st H Q:=w_st (i:=7) (p:=isI) (dc (.istore 7,2)) rfl rfl rfl rfl rfl rfl
theorem m33_42g (h : okS l7) : M33 42 [l0,l1,l2,l3,l4,l5,l6,l7,l8,l9,l10,l11,l12,l13,l14,l15] ((.int v)::st) H Q = M33 44 [l0,l1,l2,l3,l4,l5,l6,.val (.int v),l8,l9,l10,l11,l12,l13,l14,l15] st H Q:=by rcases h with rfl | ⟨z,rfl⟩ <;> first | exact m33_42u | exact m33_42i
theorem m33_44 : M33 44 ls st H Q = M33 45 ls (.int 0::st) H Q:=w_con (dc (.iconst 0,1)) rfl (by decide)
theorem m33_45u : M33 45 [l0,l1,l2,l3,l4,l5,l6,l7,.unset,l9,l10,l11,l12,l13,l14,l15] ((.int v)::st) H Q = M33 47 [l0,l1,l2,l3,l4,l5,l6,l7,.val (.int v),l9,l10,l11,l12,l13,l14,l15] st H Q:=w_st (i:=8) (p:=isI) (dc (.istore 8,2)) rfl rfl rfl rfl rfl rfl
theorem m33_45i : M33 45 [l0,l1,l2,l3,l4,l5,l6,l7,.val (.int z),l9,l10,l11,l12,l13,l14,l15] ((.int v)::st) H Q = M33 47 [l0,l1,l2,l3,l4,l5,l6,l7,.val (.int v),l9,l10,l11,l12,l13,l14,l15] st H Q:=w_st (i:=8) (p:=isI) (dc (.istore 8,2)) rfl rfl rfl rfl rfl rfl
theorem m33_45g (h : okS l8) : M33 45 [l0,l1,l2,l3,l4,l5,l6,l7,l8,l9,l10,l11,l12,l13,l14,l15] ((.int v)::st) H Q = M33 47 [l0,l1,l2,l3,l4,l5,l6,l7,.val (.int v),l9,l10,l11,l12,l13,l14,l15] st H Q:=by rcases h with rfl | ⟨z,rfl⟩ <;> first | exact m33_45u | exact m33_45i
theorem m33_47 : M33 47 [l0,l1,l2,l3,l4,l5,l6,l7,.val (.int v),l9,l10,l11,l12,l13,l14,l15] st H Q = M33 49 [l0,l1,l2,l3,l4,l5,l6,l7,.val (.int v),l9,l10,l11,l12,l13,l14,l15] (.int v::st) H Q:=w_x (dc (.iload 8,2)) rfl
theorem m33_49 : M33 49 [l0,.val (.int v),l2,l3,l4,l5,l6,l7,l8,l9,l10,l11,l12,l13,l14,l15] st H Q = M33 50 [l0,.val (.int v),l2,l3,l4,l5,l6,l7,l8,l9,l10,l11,l12,l13,l14,l15] (.int v::st) H Q:=w_x (dc (.iload_n 1,1)) rfl
theorem m33_50 : M33 50 ls (.int y::.int x::st) H Q = if x < y then M33 53 ls st H Q else M33 184 ls st H Q:=w_icmpN (dc (.if_icmp .ge 134,3)) (i_ge x y) rfl
theorem m33_53 : M33 53 [.val (.ref r),l1,l2,l3,l4,l5,l6,l7,l8,l9,l10,l11,l12,l13,l14,l15] st H Q = M33 54 [.val (.ref r),l1,l2,l3,l4,l5,l6,l7,l8,l9,l10,l11,l12,l13,l14,l15] (.ref r::st) H Q:=w_x (dc (.aload_n 0,1)) rfl
theorem m33_54 : M33 54 [l0,.val (.int v),l2,l3,l4,l5,l6,l7,l8,l9,l10,l11,l12,l13,l14,l15] st H Q = M33 55 [l0,.val (.int v),l2,l3,l4,l5,l6,l7,l8,l9,l10,l11,l12,l13,l14,l15] (.int v::st) H Q:=w_x (dc (.iload_n 1,1)) rfl
theorem m33_55 : M33 55 [l0,l1,.val (.int v),l3,l4,l5,l6,l7,l8,l9,l10,l11,l12,l13,l14,l15] st H Q = M33 56 [l0,l1,.val (.int v),l3,l4,l5,l6,l7,l8,l9,l10,l11,l12,l13,l14,l15] (.int v::st) H Q:=w_x (dc (.iload_n 2,1)) rfl
theorem m33_56 : M33 56 [l0,l1,l2,l3,l4,l5,l6,l7,.val (.int v),l9,l10,l11,l12,l13,l14,l15] st H Q = M33 58 [l0,l1,l2,l3,l4,l5,l6,l7,.val (.int v),l9,l10,l11,l12,l13,l14,l15] (.int v::st) H Q:=w_x (dc (.iload 8,2)) rfl
theorem cr33_40 : sR tables_1 dn y33 40 = some (y32,method_11_code,12,(some .long),4,0):=sR_of (cR_of (by decide +kernel) rc_32 dn_32 dn_33 (sig:=⟨[.array .int,.int,.int,.int],some .long⟩) (by decide +kernel) (by decide +kernel) rfl rfl) (by decide +kernel)
theorem m33_58 (a0 : Nat) (a1 : Int32) (a2 : Int32) (a3 : Int32) : M33 58 ls [.int a3,.int a2,.int a1,.ref a0] H Q = M32 0 [.val (.ref a0),.val (.int a1),.val (.int a2),.val (.int a3),.unset,.unset,.unset,.unset,.unset,.unset,.unset,.unset] [] H (fun v H1 => M33 61 ls (v.toList ++ []) H1 Q):=w_stat (as:=[.int a3,.int a2,.int a1,.ref a0]) (rest:=[]) (dc (.invokestatic 40,3)) cr33_40 rfl (Nat.le_of_ble_eq_true rfl) (by show 4≤12; omega) rfl
theorem m33_61 : M33 61 [l0,l1,l2,l3,l4,l5,l6,l7,l8,.unset,.unset,l11,l12,l13,l14,l15] (.long J1::st) H Q = M33 63 [l0,l1,l2,l3,l4,l5,l6,l7,l8,.val (.long J1),.second,l11,l12,l13,l14,l15] st H Q:=w_x (dc (.lstore 9,2)) rfl
theorem m33_63 : M33 63 ls st H Q = M33 64 ls (.int 0::st) H Q:=w_con (dc (.iconst 0,1)) rfl (by decide)
theorem m33_64u : M33 64 [l0,l1,l2,l3,l4,l5,l6,l7,l8,l9,l10,.unset,l12,l13,l14,l15] ((.int v)::st) H Q = M33 66 [l0,l1,l2,l3,l4,l5,l6,l7,l8,l9,l10,.val (.int v),l12,l13,l14,l15] st H Q:=w_st (i:=11) (p:=isI) (dc (.istore 11,2)) rfl rfl rfl rfl rfl rfl
theorem m33_64i : M33 64 [l0,l1,l2,l3,l4,l5,l6,l7,l8,l9,l10,.val (.int z),l12,l13,l14,l15] ((.int v)::st) H Q = M33 66 [l0,l1,l2,l3,l4,l5,l6,l7,l8,l9,l10,.val (.int v),l12,l13,l14,l15] st H Q:=w_st (i:=11) (p:=isI) (dc (.istore 11,2)) rfl rfl rfl rfl rfl rfl
theorem m33_64g (h : okS l11) : M33 64 [l0,l1,l2,l3,l4,l5,l6,l7,l8,l9,l10,l11,l12,l13,l14,l15] ((.int v)::st) H Q = M33 66 [l0,l1,l2,l3,l4,l5,l6,l7,l8,l9,l10,.val (.int v),l12,l13,l14,l15] st H Q:=by rcases h with rfl | ⟨z,rfl⟩ <;> first | exact m33_64u | exact m33_64i
theorem m33_66 : M33 66 [l0,l1,l2,l3,l4,l5,l6,l7,l8,l9,l10,.val (.int v),l12,l13,l14,l15] st H Q = M33 68 [l0,l1,l2,l3,l4,l5,l6,l7,l8,l9,l10,.val (.int v),l12,l13,l14,l15] (.int v::st) H Q:=w_x (dc (.iload 11,2)) rfl
theorem m33_68 : M33 68 [l0,.val (.int v),l2,l3,l4,l5,l6,l7,l8,l9,l10,l11,l12,l13,l14,l15] st H Q = M33 69 [l0,.val (.int v),l2,l3,l4,l5,l6,l7,l8,l9,l10,l11,l12,l13,l14,l15] (.int v::st) H Q:=w_x (dc (.iload_n 1,1)) rfl
theorem m33_69 : M33 69 ls (.int y::.int x::st) H Q = if x < y then M33 72 ls st H Q else M33 178 ls st H Q:=w_icmpN (dc (.if_icmp .ge 109,3)) (i_ge x y) rfl
theorem m33_72 : M33 72 [l0,l1,l2,l3,l4,l5,l6,l7,l8,.val (.long J1),l10,l11,l12,l13,l14,l15] st H Q = M33 74 [l0,l1,l2,l3,l4,l5,l6,l7,l8,.val (.long J1),l10,l11,l12,l13,l14,l15] (.long J1::st) H Q:=w_x (dc (.lload 9,2)) rfl
theorem m33_74 : M33 74 [l0,l1,l2,l3,l4,l5,l6,l7,l8,l9,l10,.val (.int v),l12,l13,l14,l15] st H Q = M33 76 [l0,l1,l2,l3,l4,l5,l6,l7,l8,l9,l10,.val (.int v),l12,l13,l14,l15] (.int v::st) H Q:=w_x (dc (.iload 11,2)) rfl
theorem m33_76 : M33 76 ls st H Q = M33 78 ls (.int 12::st) H Q:=w_con (dc (.bipush 12,2)) rfl (by decide)
theorem cr33_33 : sR tables_1 dn y33 33 = some (y31,method_8_code,4,(some .int),3,40):=sR_of (cR_of (by decide +kernel) rc_31 dn_31 dn_33 (sig:=⟨[.long,.int,.int],some .int⟩) (by decide +kernel) (by decide +kernel) rfl rfl) (by decide +kernel)
theorem m33_78 (a0 : Int64) (a1 : Int32) (a2 : Int32) : M33 78 ls [.int a2,.int a1,.long a0] H Q = M31 0 [.val (.long a0),.second,.val (.int a1),.val (.int a2)] [] H (fun v H1 => M33 81 ls (v.toList ++ []) H1 Q):=w_stat (as:=[.int a2,.int a1,.long a0]) (rest:=[]) (dc (.invokestatic 33,3)) cr33_33 rfl (Nat.le_of_ble_eq_true rfl) (by show 4≤4; omega) rfl
theorem m33_81u : M33 81 [l0,l1,l2,l3,l4,l5,l6,l7,l8,l9,l10,l11,.unset,l13,l14,l15] ((.int v)::st) H Q = M33 83 [l0,l1,l2,l3,l4,l5,l6,l7,l8,l9,l10,l11,.val (.int v),l13,l14,l15] st H Q:=w_st (i:=12) (p:=isI) (dc (.istore 12,2)) rfl rfl rfl rfl rfl rfl
theorem m33_81i : M33 81 [l0,l1,l2,l3,l4,l5,l6,l7,l8,l9,l10,l11,.val (.int z),l13,l14,l15] ((.int v)::st) H Q = M33 83 [l0,l1,l2,l3,l4,l5,l6,l7,l8,l9,l10,l11,.val (.int v),l13,l14,l15] st H Q:=w_st (i:=12) (p:=isI) (dc (.istore 12,2)) rfl rfl rfl rfl rfl rfl
theorem m33_81g (h : okS l12) : M33 81 [l0,l1,l2,l3,l4,l5,l6,l7,l8,l9,l10,l11,l12,l13,l14,l15] ((.int v)::st) H Q = M33 83 [l0,l1,l2,l3,l4,l5,l6,l7,l8,l9,l10,l11,.val (.int v),l13,l14,l15] st H Q:=by rcases h with rfl | ⟨z,rfl⟩ <;> first | exact m33_81u | exact m33_81i
theorem m33_83 : M33 83 [l0,l1,l2,l3,l4,l5,l6,l7,l8,l9,l10,l11,.val (.int v),l13,l14,l15] st H Q = M33 85 [l0,l1,l2,l3,l4,l5,l6,l7,l8,l9,l10,l11,.val (.int v),l13,l14,l15] (.int v::st) H Q:=w_x (dc (.iload 12,2)) rfl
theorem m33_85 : M33 85 ls st H Q = M33 88 ls (.int 4095::st) H Q:=w_con (dc (.sipush 4095,3)) rfl (by decide)
theorem m33_88 : M33 88 ls (.int y::.int x::st) H Q = if x = y then M33 91 ls st H Q else M33 94 ls st H Q:=w_icmpN (dc (.if_icmp .ne 6,3)) (i_ne x y) rfl
theorem m33_91 : M33 91 ls st H Q = M33 172 ls st H Q:=w_x (dc (.goto 81,3)) rfl
theorem m33_94 : M33 94 [l0,l1,l2,l3,l4,l5,l6,l7,l8,l9,l10,l11,.val (.int v),l13,l14,l15] st H Q = M33 96 [l0,l1,l2,l3,l4,l5,l6,l7,l8,l9,l10,l11,.val (.int v),l13,l14,l15] (.int v::st) H Q:=w_x (dc (.iload 12,2)) rfl
theorem m33_96 : M33 96 ls st H Q = M33 98 ls (.int 127::st) H Q:=w_con (dc (.bipush 127,2)) rfl (by decide)
theorem m33_98 : M33 98 ls (.int y::.int x::st) H Q = M33 99 ls (.int (x + y)::st) H Q:=w_x (dc (.iadd,1)) rfl
theorem m33_99 : M33 99 ls st H Q = M33 102 ls (.int 128::st) H Q:=w_con (dc (.sipush 128,3)) rfl (by decide)
theorem m33_102 : M33 102 ls (.int y::.int x::st) H Q = (y ≠ 0∧M33 103 ls (.int (x / y)::st) H Q):=w_div (f:=fun x y => x / y) (dc (.idiv,1)) (fun _ => rfl) rfl rfl
theorem m33_103 : M33 103 ls st H Q = M33 104 ls (.int 1::st) H Q:=w_con (dc (.iconst 1,1)) rfl (by decide)
theorem m33_104 : M33 104 ls (.int y::.int x::st) H Q = M33 105 ls (.int (x - y)::st) H Q:=w_x (dc (.isub,1)) rfl
theorem m33_105u : M33 105 [l0,l1,l2,l3,l4,l5,l6,l7,l8,l9,l10,l11,l12,.unset,l14,l15] ((.int v)::st) H Q = M33 107 [l0,l1,l2,l3,l4,l5,l6,l7,l8,l9,l10,l11,l12,.val (.int v),l14,l15] st H Q:=w_st (i:=13) (p:=isI) (dc (.istore 13,2)) rfl rfl rfl rfl rfl rfl
theorem m33_105i : M33 105 [l0,l1,l2,l3,l4,l5,l6,l7,l8,l9,l10,l11,l12,.val (.int z),l14,l15] ((.int v)::st) H Q = M33 107 [l0,l1,l2,l3,l4,l5,l6,l7,l8,l9,l10,l11,l12,.val (.int v),l14,l15] st H Q:=w_st (i:=13) (p:=isI) (dc (.istore 13,2)) rfl rfl rfl rfl rfl rfl
theorem m33_105g (h : okS l13) : M33 105 [l0,l1,l2,l3,l4,l5,l6,l7,l8,l9,l10,l11,l12,l13,l14,l15] ((.int v)::st) H Q = M33 107 [l0,l1,l2,l3,l4,l5,l6,l7,l8,l9,l10,l11,l12,.val (.int v),l14,l15] st H Q:=by rcases h with rfl | ⟨z,rfl⟩ <;> first | exact m33_105u | exact m33_105i
theorem m33_107 : M33 107 ls st H Q = M33 110 ls (.int 128::st) H Q:=w_con (dc (.sipush 128,3)) rfl (by decide)
theorem m33_110 : M33 110 [l0,l1,l2,l3,l4,l5,l6,l7,l8,l9,l10,l11,l12,.val (.int v),l14,l15] st H Q = M33 112 [l0,l1,l2,l3,l4,l5,l6,l7,l8,l9,l10,l11,l12,.val (.int v),l14,l15] (.int v::st) H Q:=w_x (dc (.iload 13,2)) rfl
theorem m33_112 : M33 112 ls st H Q = M33 113 ls (.int 1::st) H Q:=w_con (dc (.iconst 1,1)) rfl (by decide)
theorem m33_113 : M33 113 ls (.int y::.int x::st) H Q = M33 114 ls (.int (x + y)::st) H Q:=w_x (dc (.iadd,1)) rfl
theorem m33_114 : M33 114 ls (.int y::.int x::st) H Q = M33 115 ls (.int (x * y)::st) H Q:=w_x (dc (.imul,1)) rfl
theorem m33_115 : M33 115 [l0,l1,l2,l3,l4,l5,l6,l7,l8,l9,l10,l11,.val (.int v),l13,l14,l15] st H Q = M33 117 [l0,l1,l2,l3,l4,l5,l6,l7,l8,l9,l10,l11,.val (.int v),l13,l14,l15] (.int v::st) H Q:=w_x (dc (.iload 12,2)) rfl
theorem m33_117 : M33 117 ls (.int y::.int x::st) H Q = M33 118 ls (.int (x - y)::st) H Q:=w_x (dc (.isub,1)) rfl
theorem m33_118u : M33 118 [l0,l1,l2,l3,l4,l5,l6,l7,l8,l9,l10,l11,l12,l13,.unset,l15] ((.int v)::st) H Q = M33 120 [l0,l1,l2,l3,l4,l5,l6,l7,l8,l9,l10,l11,l12,l13,.val (.int v),l15] st H Q:=w_st (i:=14) (p:=isI) (dc (.istore 14,2)) rfl rfl rfl rfl rfl rfl
theorem m33_118i : M33 118 [l0,l1,l2,l3,l4,l5,l6,l7,l8,l9,l10,l11,l12,l13,.val (.int z),l15] ((.int v)::st) H Q = M33 120 [l0,l1,l2,l3,l4,l5,l6,l7,l8,l9,l10,l11,l12,l13,.val (.int v),l15] st H Q:=w_st (i:=14) (p:=isI) (dc (.istore 14,2)) rfl rfl rfl rfl rfl rfl
theorem m33_118g (h : okS l14) : M33 118 [l0,l1,l2,l3,l4,l5,l6,l7,l8,l9,l10,l11,l12,l13,l14,l15] ((.int v)::st) H Q = M33 120 [l0,l1,l2,l3,l4,l5,l6,l7,l8,l9,l10,l11,l12,l13,.val (.int v),l15] st H Q:=by rcases h with rfl | ⟨z,rfl⟩ <;> first | exact m33_118u | exact m33_118i
theorem m33_120 : M33 120 [l0,l1,l2,l3,l4,l5,l6,l7,l8,l9,l10,l11,l12,l13,.val (.int v),l15] st H Q = M33 122 [l0,l1,l2,l3,l4,l5,l6,l7,l8,l9,l10,l11,l12,l13,.val (.int v),l15] (.int v::st) H Q:=w_x (dc (.iload 14,2)) rfl
theorem m33_122 : M33 122 [l0,l1,l2,.val (.int v),l4,l5,l6,l7,l8,l9,l10,l11,l12,l13,l14,l15] st H Q = M33 123 [l0,l1,l2,.val (.int v),l4,l5,l6,l7,l8,l9,l10,l11,l12,l13,l14,l15] (.int v::st) H Q:=w_x (dc (.iload_n 3,1)) rfl
theorem m33_123 : M33 123 ls (.int y::.int x::st) H Q = if y < x then M33 126 ls st H Q else M33 172 ls st H Q:=w_icmpN (dc (.if_icmp .le 49,3)) (i_le x y) rfl
theorem m33_126 : M33 126 [l0,l1,l2,l3,.val (.long J1),l5,l6,l7,l8,l9,l10,l11,l12,l13,l14,l15] st H Q = M33 128 [l0,l1,l2,l3,.val (.long J1),l5,l6,l7,l8,l9,l10,l11,l12,l13,l14,l15] (.long J1::st) H Q:=w_x (dc (.lload 4,2)) rfl
theorem m33_128 : M33 128 [l0,l1,l2,l3,l4,l5,l6,l7,l8,l9,l10,.val (.int v),l12,l13,l14,l15] st H Q = M33 130 [l0,l1,l2,l3,l4,l5,l6,l7,l8,l9,l10,.val (.int v),l12,l13,l14,l15] (.int v::st) H Q:=w_x (dc (.iload 11,2)) rfl
theorem m33_130 : M33 130 ls st H Q = M33 132 ls (.int 10::st) H Q:=w_con (dc (.bipush 10,2)) rfl (by decide)
theorem m33_132 (a0 : Int64) (a1 : Int32) (a2 : Int32) : M33 132 ls [.int a2,.int a1,.long a0] H Q = M31 0 [.val (.long a0),.second,.val (.int a1),.val (.int a2)] [] H (fun v H1 => M33 135 ls (v.toList ++ []) H1 Q):=w_stat (as:=[.int a2,.int a1,.long a0]) (rest:=[]) (dc (.invokestatic 33,3)) cr33_33 rfl (Nat.le_of_ble_eq_true rfl) (by show 4≤4; omega) rfl
theorem m33_135 : M33 135 [l0,l1,l2,l3,l4,l5,l6,l7,l8,l9,l10,l11,l12,.val (.int v),l14,l15] st H Q = M33 137 [l0,l1,l2,l3,l4,l5,l6,l7,l8,l9,l10,l11,l12,.val (.int v),l14,l15] (.int v::st) H Q:=w_x (dc (.iload 13,2)) rfl
theorem m33_137 : M33 137 ls (.int y::.int x::st) H Q = M33 138 ls (.int (x + y)::st) H Q:=w_x (dc (.iadd,1)) rfl
theorem m33_138 : M33 138 ls st H Q = M33 139 ls (.int 1::st) H Q:=w_con (dc (.iconst 1,1)) rfl (by decide)
theorem m33_139 : M33 139 ls (.int y::.int x::st) H Q = M33 140 ls (.int (x - y)::st) H Q:=w_x (dc (.isub,1)) rfl
theorem m33_140u : M33 140 [l0,l1,l2,l3,l4,l5,l6,l7,l8,l9,l10,l11,l12,l13,l14,.unset] ((.int v)::st) H Q = M33 142 [l0,l1,l2,l3,l4,l5,l6,l7,l8,l9,l10,l11,l12,l13,l14,.val (.int v)] st H Q:=w_st (i:=15) (p:=isI) (dc (.istore 15,2)) rfl rfl rfl rfl rfl rfl
theorem m33_140i : M33 140 [l0,l1,l2,l3,l4,l5,l6,l7,l8,l9,l10,l11,l12,l13,l14,.val (.int z)] ((.int v)::st) H Q = M33 142 [l0,l1,l2,l3,l4,l5,l6,l7,l8,l9,l10,l11,l12,l13,l14,.val (.int v)] st H Q:=w_st (i:=15) (p:=isI) (dc (.istore 15,2)) rfl rfl rfl rfl rfl rfl
theorem m33_140g (h : okS l15) : M33 140 [l0,l1,l2,l3,l4,l5,l6,l7,l8,l9,l10,l11,l12,l13,l14,l15] ((.int v)::st) H Q = M33 142 [l0,l1,l2,l3,l4,l5,l6,l7,l8,l9,l10,l11,l12,l13,l14,.val (.int v)] st H Q:=by rcases h with rfl | ⟨z,rfl⟩ <;> first | exact m33_140u | exact m33_140i
theorem m33_142 : M33 142 [l0,l1,l2,l3,l4,l5,l6,l7,l8,l9,l10,l11,l12,l13,l14,.val (.int v)] st H Q = M33 144 [l0,l1,l2,l3,l4,l5,l6,l7,l8,l9,l10,l11,l12,l13,l14,.val (.int v)] (.int v::st) H Q:=w_x (dc (.iload 15,2)) rfl
theorem m33_144 : M33 144 [l0,l1,l2,l3,.val (.long J1),l5,l6,l7,l8,l9,l10,l11,l12,l13,l14,l15] st H Q = M33 146 [l0,l1,l2,l3,.val (.long J1),l5,l6,l7,l8,l9,l10,l11,l12,l13,l14,l15] (.long J1::st) H Q:=w_x (dc (.lload 4,2)) rfl
theorem m33_146 : M33 146 [l0,l1,l2,l3,l4,l5,l6,l7,.val (.int v),l9,l10,l11,l12,l13,l14,l15] st H Q = M33 148 [l0,l1,l2,l3,l4,l5,l6,l7,.val (.int v),l9,l10,l11,l12,l13,l14,l15] (.int v::st) H Q:=w_x (dc (.iload 8,2)) rfl
theorem m33_148 : M33 148 ls st H Q = M33 150 ls (.int 10::st) H Q:=w_con (dc (.bipush 10,2)) rfl (by decide)
theorem m33_150 (a0 : Int64) (a1 : Int32) (a2 : Int32) (u0 : Int32) : M33 150 ls [.int a2,.int a1,.long a0,.int u0] H Q = M31 0 [.val (.long a0),.second,.val (.int a1),.val (.int a2)] [] H (fun v H1 => M33 153 ls (v.toList ++ [.int u0]) H1 Q):=w_stat (as:=[.int a2,.int a1,.long a0]) (rest:=[.int u0]) (dc (.invokestatic 33,3)) cr33_33 rfl (Nat.le_of_ble_eq_true rfl) (by show 4≤4; omega) rfl
theorem m33_153 : M33 153 ls (.int y::.int x::st) H Q = if x < y then M33 156 ls st H Q else M33 172 ls st H Q:=w_icmpN (dc (.if_icmp .ge 19,3)) (i_ge x y) rfl
theorem m33_156 : M33 156 [l0,l1,l2,l3,.val (.long J1),l5,l6,l7,l8,l9,l10,l11,l12,l13,l14,l15] st H Q = M33 158 [l0,l1,l2,l3,.val (.long J1),l5,l6,l7,l8,l9,l10,l11,l12,l13,l14,l15] (.long J1::st) H Q:=w_x (dc (.lload 4,2)) rfl
theorem m33_158 : M33 158 [l0,l1,l2,l3,l4,l5,l6,l7,.val (.int v),l9,l10,l11,l12,l13,l14,l15] st H Q = M33 160 [l0,l1,l2,l3,l4,l5,l6,l7,.val (.int v),l9,l10,l11,l12,l13,l14,l15] (.int v::st) H Q:=w_x (dc (.iload 8,2)) rfl
theorem m33_160 : M33 160 ls st H Q = M33 162 ls (.int 10::st) H Q:=w_con (dc (.bipush 10,2)) rfl (by decide)
theorem m33_162 : M33 162 [l0,l1,l2,l3,l4,l5,l6,l7,l8,l9,l10,l11,l12,l13,l14,.val (.int v)] st H Q = M33 164 [l0,l1,l2,l3,l4,l5,l6,l7,l8,l9,l10,l11,l12,l13,l14,.val (.int v)] (.int v::st) H Q:=w_x (dc (.iload 15,2)) rfl
theorem m33_164 (a0 : Int64) (a1 : Int32) (a2 : Int32) (a3 : Int32) : M33 164 ls [.int a3,.int a2,.int a1,.long a0] H Q = M30 0 [.val (.long a0),.second,.val (.int a1),.val (.int a2),.val (.int a3),.unset,.unset] [] H (fun v H1 => M33 167 ls (v.toList ++ []) H1 Q):=w_stat (as:=[.int a3,.int a2,.int a1,.long a0]) (rest:=[]) (dc (.invokestatic 22,3)) cr33_22 rfl (Nat.le_of_ble_eq_true rfl) (by show 5≤7; omega) rfl
theorem m33_167 : M33 167 [l0,l1,l2,l3,.val (.long J2),.second,l6,l7,l8,l9,l10,l11,l12,l13,l14,l15] (.long J1::st) H Q = M33 169 [l0,l1,l2,l3,.val (.long J1),.second,l6,l7,l8,l9,l10,l11,l12,l13,l14,l15] st H Q:=w_x (dc (.lstore 4,2)) rfl
theorem m33_169 : M33 169 ls st H Q = M33 170 ls (.int 1::st) H Q:=w_con (dc (.iconst 1,1)) rfl (by decide)
theorem m33_170i : M33 170 [l0,l1,l2,l3,l4,l5,l6,.val (.int z),l8,l9,l10,l11,l12,l13,l14,l15] ((.int v)::st) H Q = M33 172 [l0,l1,l2,l3,l4,l5,l6,.val (.int v),l8,l9,l10,l11,l12,l13,l14,l15] st H Q:=w_st (i:=7) (p:=isI) (dc (.istore 7,2)) rfl rfl rfl rfl rfl rfl
theorem m33_172 : M33 172 [l0,l1,l2,l3,l4,l5,l6,l7,l8,l9,l10,.val (.int v),l12,l13,l14,l15] st H Q = M33 175 [l0,l1,l2,l3,l4,l5,l6,l7,l8,l9,l10,.val (.int (v + 1)),l12,l13,l14,l15] st H Q:=w_iinc (dc (.iinc 11 1,3)) rfl (by decide) rfl
theorem m33_175 : M33 175 ls st H Q = M33 66 ls st H Q:=w_x (dc (.goto (-109),3)) rfl
theorem m33_178 : M33 178 [l0,l1,l2,l3,l4,l5,l6,l7,.val (.int v),l9,l10,l11,l12,l13,l14,l15] st H Q = M33 181 [l0,l1,l2,l3,l4,l5,l6,l7,.val (.int (v + 1)),l9,l10,l11,l12,l13,l14,l15] st H Q:=w_iinc (dc (.iinc 8 1,3)) rfl (by decide) rfl
theorem m33_181 : M33 181 ls st H Q = M33 47 ls st H Q:=w_x (dc (.goto (-134),3)) rfl
theorem m33_184 : M33 184 ls st H Q = M33 185 ls (.int 0::st) H Q:=w_con (dc (.iconst 0,1)) rfl (by decide)
theorem m33_185i : M33 185 [l0,l1,l2,l3,l4,l5,l6,l7,.val (.int z),l9,l10,l11,l12,l13,l14,l15] ((.int v)::st) H Q = M33 187 [l0,l1,l2,l3,l4,l5,l6,l7,.val (.int v),l9,l10,l11,l12,l13,l14,l15] st H Q:=w_st (i:=8) (p:=isI) (dc (.istore 8,2)) rfl rfl rfl rfl rfl rfl
theorem m33_187 : M33 187 [l0,l1,l2,l3,l4,l5,l6,l7,.val (.int v),l9,l10,l11,l12,l13,l14,l15] st H Q = M33 189 [l0,l1,l2,l3,l4,l5,l6,l7,.val (.int v),l9,l10,l11,l12,l13,l14,l15] (.int v::st) H Q:=w_x (dc (.iload 8,2)) rfl
theorem m33_189 : M33 189 [l0,l1,.val (.int v),l3,l4,l5,l6,l7,l8,l9,l10,l11,l12,l13,l14,l15] st H Q = M33 190 [l0,l1,.val (.int v),l3,l4,l5,l6,l7,l8,l9,l10,l11,l12,l13,l14,l15] (.int v::st) H Q:=w_x (dc (.iload_n 2,1)) rfl
theorem m33_190 : M33 190 ls (.int y::.int x::st) H Q = if x < y then M33 193 ls st H Q else M33 265 ls st H Q:=w_icmpN (dc (.if_icmp .ge 75,3)) (i_ge x y) rfl
theorem m33_193 : M33 193 [.val (.ref r),l1,l2,l3,l4,l5,l6,l7,l8,l9,l10,l11,l12,l13,l14,l15] st H Q = M33 194 [.val (.ref r),l1,l2,l3,l4,l5,l6,l7,l8,l9,l10,l11,l12,l13,l14,l15] (.ref r::st) H Q:=w_x (dc (.aload_n 0,1)) rfl
theorem m33_194 : M33 194 [l0,.val (.int v),l2,l3,l4,l5,l6,l7,l8,l9,l10,l11,l12,l13,l14,l15] st H Q = M33 195 [l0,.val (.int v),l2,l3,l4,l5,l6,l7,l8,l9,l10,l11,l12,l13,l14,l15] (.int v::st) H Q:=w_x (dc (.iload_n 1,1)) rfl
theorem m33_195 : M33 195 [l0,l1,l2,l3,l4,l5,l6,l7,.val (.int v),l9,l10,l11,l12,l13,l14,l15] st H Q = M33 197 [l0,l1,l2,l3,l4,l5,l6,l7,.val (.int v),l9,l10,l11,l12,l13,l14,l15] (.int v::st) H Q:=w_x (dc (.iload 8,2)) rfl
theorem cr33_26 : sR tables_1 dn y33 26 = some (y26,method_5_code,3,(some .int),3,27):=sR_of (cR_of (by decide +kernel) rc_26 dn_26 dn_33 (sig:=⟨[.array .int,.int,.int],some .int⟩) (by decide +kernel) (by decide +kernel) rfl rfl) (by decide +kernel)
theorem m33_197 (a0 : Nat) (a1 : Int32) (a2 : Int32) : M33 197 ls [.int a2,.int a1,.ref a0] H Q = M26 0 [.val (.ref a0),.val (.int a1),.val (.int a2)] [] H (fun v H1 => M33 200 ls (v.toList ++ []) H1 Q):=w_stat (as:=[.int a2,.int a1,.ref a0]) (rest:=[]) (dc (.invokestatic 26,3)) cr33_26 rfl (Nat.le_of_ble_eq_true rfl) (by show 3≤3; omega) rfl
theorem m33_200u : M33 200 [l0,l1,l2,l3,l4,l5,l6,l7,l8,.unset,l10,l11,l12,l13,l14,l15] ((.int v)::st) H Q = M33 202 [l0,l1,l2,l3,l4,l5,l6,l7,l8,.val (.int v),l10,l11,l12,l13,l14,l15] st H Q:=w_st (i:=9) (p:=isI) (dc (.istore 9,2)) rfl rfl rfl rfl rfl rfl
theorem m33_200i : M33 200 [l0,l1,l2,l3,l4,l5,l6,l7,l8,.val (.int z),l10,l11,l12,l13,l14,l15] ((.int v)::st) H Q = M33 202 [l0,l1,l2,l3,l4,l5,l6,l7,l8,.val (.int v),l10,l11,l12,l13,l14,l15] st H Q:=w_st (i:=9) (p:=isI) (dc (.istore 9,2)) rfl rfl rfl rfl rfl rfl
theorem m33_200g (h : okS l9) : M33 200 [l0,l1,l2,l3,l4,l5,l6,l7,l8,l9,l10,l11,l12,l13,l14,l15] ((.int v)::st) H Q = M33 202 [l0,l1,l2,l3,l4,l5,l6,l7,l8,.val (.int v),l10,l11,l12,l13,l14,l15] st H Q:=by rcases h with rfl | ⟨z,rfl⟩ <;> first | exact m33_200u | exact m33_200i
theorem m33_202 : M33 202 [.val (.ref r),l1,l2,l3,l4,l5,l6,l7,l8,l9,l10,l11,l12,l13,l14,l15] st H Q = M33 203 [.val (.ref r),l1,l2,l3,l4,l5,l6,l7,l8,l9,l10,l11,l12,l13,l14,l15] (.ref r::st) H Q:=w_x (dc (.aload_n 0,1)) rfl
theorem m33_203 : M33 203 [l0,.val (.int v),l2,l3,l4,l5,l6,l7,l8,l9,l10,l11,l12,l13,l14,l15] st H Q = M33 204 [l0,.val (.int v),l2,l3,l4,l5,l6,l7,l8,l9,l10,l11,l12,l13,l14,l15] (.int v::st) H Q:=w_x (dc (.iload_n 1,1)) rfl
theorem m33_204 : M33 204 [l0,l1,l2,l3,l4,l5,l6,l7,.val (.int v),l9,l10,l11,l12,l13,l14,l15] st H Q = M33 206 [l0,l1,l2,l3,l4,l5,l6,l7,.val (.int v),l9,l10,l11,l12,l13,l14,l15] (.int v::st) H Q:=w_x (dc (.iload 8,2)) rfl
theorem cr33_30 : sR tables_1 dn y33 30 = some (y27,method_6_code,3,(some .int),3,27):=sR_of (cR_of (by decide +kernel) rc_27 dn_27 dn_33 (sig:=⟨[.array .int,.int,.int],some .int⟩) (by decide +kernel) (by decide +kernel) rfl rfl) (by decide +kernel)
theorem m33_206 (a0 : Nat) (a1 : Int32) (a2 : Int32) : M33 206 ls [.int a2,.int a1,.ref a0] H Q = M27 0 [.val (.ref a0),.val (.int a1),.val (.int a2)] [] H (fun v H1 => M33 209 ls (v.toList ++ []) H1 Q):=w_stat (as:=[.int a2,.int a1,.ref a0]) (rest:=[]) (dc (.invokestatic 30,3)) cr33_30 rfl (Nat.le_of_ble_eq_true rfl) (by show 3≤3; omega) rfl
theorem m33_209u : M33 209 [l0,l1,l2,l3,l4,l5,l6,l7,l8,l9,.unset,l11,l12,l13,l14,l15] ((.int v)::st) H Q = M33 211 [l0,l1,l2,l3,l4,l5,l6,l7,l8,l9,.val (.int v),l11,l12,l13,l14,l15] st H Q:=w_st (i:=10) (p:=isI) (dc (.istore 10,2)) rfl rfl rfl rfl rfl rfl
theorem m33_209i : M33 209 [l0,l1,l2,l3,l4,l5,l6,l7,l8,l9,.val (.int z),l11,l12,l13,l14,l15] ((.int v)::st) H Q = M33 211 [l0,l1,l2,l3,l4,l5,l6,l7,l8,l9,.val (.int v),l11,l12,l13,l14,l15] st H Q:=w_st (i:=10) (p:=isI) (dc (.istore 10,2)) rfl rfl rfl rfl rfl rfl
theorem m33_209g (h : okS l10) : M33 209 [l0,l1,l2,l3,l4,l5,l6,l7,l8,l9,l10,l11,l12,l13,l14,l15] ((.int v)::st) H Q = M33 211 [l0,l1,l2,l3,l4,l5,l6,l7,l8,l9,.val (.int v),l11,l12,l13,l14,l15] st H Q:=by rcases h with rfl | ⟨z,rfl⟩ <;> first | exact m33_209u | exact m33_209i
theorem m33_211 : M33 211 [l0,l1,l2,l3,.val (.long J1),l5,l6,l7,l8,l9,l10,l11,l12,l13,l14,l15] st H Q = M33 213 [l0,l1,l2,l3,.val (.long J1),l5,l6,l7,l8,l9,l10,l11,l12,l13,l14,l15] (.long J1::st) H Q:=w_x (dc (.lload 4,2)) rfl
theorem m33_213 : M33 213 [l0,l1,l2,l3,l4,l5,l6,l7,l8,l9,.val (.int v),l11,l12,l13,l14,l15] st H Q = M33 215 [l0,l1,l2,l3,l4,l5,l6,l7,l8,l9,.val (.int v),l11,l12,l13,l14,l15] (.int v::st) H Q:=w_x (dc (.iload 10,2)) rfl
theorem m33_215 : M33 215 ls st H Q = M33 217 ls (.int 10::st) H Q:=w_con (dc (.bipush 10,2)) rfl (by decide)
theorem m33_217 (a0 : Int64) (a1 : Int32) (a2 : Int32) : M33 217 ls [.int a2,.int a1,.long a0] H Q = M31 0 [.val (.long a0),.second,.val (.int a1),.val (.int a2)] [] H (fun v H1 => M33 220 ls (v.toList ++ []) H1 Q):=w_stat (as:=[.int a2,.int a1,.long a0]) (rest:=[]) (dc (.invokestatic 33,3)) cr33_33 rfl (Nat.le_of_ble_eq_true rfl) (by show 4≤4; omega) rfl
theorem m33_220 : M33 220 [.val (.ref r),l1,l2,l3,l4,l5,l6,l7,l8,l9,l10,l11,l12,l13,l14,l15] st H Q = M33 221 [.val (.ref r),l1,l2,l3,l4,l5,l6,l7,l8,l9,l10,l11,l12,l13,l14,l15] (.ref r::st) H Q:=w_x (dc (.aload_n 0,1)) rfl
theorem m33_221 : M33 221 [l0,l1,l2,l3,l4,l5,l6,l7,.val (.int v),l9,l10,l11,l12,l13,l14,l15] st H Q = M33 223 [l0,l1,l2,l3,l4,l5,l6,l7,.val (.int v),l9,l10,l11,l12,l13,l14,l15] (.int v::st) H Q:=w_x (dc (.iload 8,2)) rfl
theorem cr33_37 : sR tables_1 dn y33 37 = some (y28,method_7_code,2,(some .int),2,28):=sR_of (cR_of (by decide +kernel) rc_28 dn_28 dn_33 (sig:=⟨[.array .int,.int],some .int⟩) (by decide +kernel) (by decide +kernel) rfl rfl) (by decide +kernel)
theorem m33_223 (a0 : Nat) (a1 : Int32) (u0 : Int32) : M33 223 ls [.int a1,.ref a0,.int u0] H Q = M28 0 [.val (.ref a0),.val (.int a1)] [] H (fun v H1 => M33 226 ls (v.toList ++ [.int u0]) H1 Q):=w_stat (as:=[.int a1,.ref a0]) (rest:=[.int u0]) (dc (.invokestatic 37,3)) cr33_37 rfl (Nat.le_of_ble_eq_true rfl) (by show 2≤2; omega) rfl
theorem m33_226 : M33 226 ls (.int y::.int x::st) H Q = M33 227 ls (.int (x + y)::st) H Q:=w_x (dc (.iadd,1)) rfl
theorem m33_227u : M33 227 [l0,l1,l2,l3,l4,l5,l6,l7,l8,l9,l10,.unset,l12,l13,l14,l15] ((.int v)::st) H Q = M33 229 [l0,l1,l2,l3,l4,l5,l6,l7,l8,l9,l10,.val (.int v),l12,l13,l14,l15] st H Q:=w_st (i:=11) (p:=isI) (dc (.istore 11,2)) rfl rfl rfl rfl rfl rfl
theorem m33_227i : M33 227 [l0,l1,l2,l3,l4,l5,l6,l7,l8,l9,l10,.val (.int z),l12,l13,l14,l15] ((.int v)::st) H Q = M33 229 [l0,l1,l2,l3,l4,l5,l6,l7,l8,l9,l10,.val (.int v),l12,l13,l14,l15] st H Q:=w_st (i:=11) (p:=isI) (dc (.istore 11,2)) rfl rfl rfl rfl rfl rfl
theorem m33_227g (h : okS l11) : M33 227 [l0,l1,l2,l3,l4,l5,l6,l7,l8,l9,l10,l11,l12,l13,l14,l15] ((.int v)::st) H Q = M33 229 [l0,l1,l2,l3,l4,l5,l6,l7,l8,l9,l10,.val (.int v),l12,l13,l14,l15] st H Q:=by rcases h with rfl | ⟨z,rfl⟩ <;> first | exact m33_227u | exact m33_227i
theorem m33_229 : M33 229 [l0,l1,l2,l3,l4,l5,l6,l7,l8,l9,l10,.val (.int v),l12,l13,l14,l15] st H Q = M33 231 [l0,l1,l2,l3,l4,l5,l6,l7,l8,l9,l10,.val (.int v),l12,l13,l14,l15] (.int v::st) H Q:=w_x (dc (.iload 11,2)) rfl
theorem m33_231 : M33 231 [l0,l1,l2,l3,.val (.long J1),l5,l6,l7,l8,l9,l10,l11,l12,l13,l14,l15] st H Q = M33 233 [l0,l1,l2,l3,.val (.long J1),l5,l6,l7,l8,l9,l10,l11,l12,l13,l14,l15] (.long J1::st) H Q:=w_x (dc (.lload 4,2)) rfl
theorem m33_233 : M33 233 [l0,l1,l2,l3,l4,l5,l6,l7,l8,.val (.int v),l10,l11,l12,l13,l14,l15] st H Q = M33 235 [l0,l1,l2,l3,l4,l5,l6,l7,l8,.val (.int v),l10,l11,l12,l13,l14,l15] (.int v::st) H Q:=w_x (dc (.iload 9,2)) rfl
theorem m33_235 : M33 235 ls st H Q = M33 237 ls (.int 10::st) H Q:=w_con (dc (.bipush 10,2)) rfl (by decide)
theorem m33_237 (a0 : Int64) (a1 : Int32) (a2 : Int32) (u0 : Int32) : M33 237 ls [.int a2,.int a1,.long a0,.int u0] H Q = M31 0 [.val (.long a0),.second,.val (.int a1),.val (.int a2)] [] H (fun v H1 => M33 240 ls (v.toList ++ [.int u0]) H1 Q):=w_stat (as:=[.int a2,.int a1,.long a0]) (rest:=[.int u0]) (dc (.invokestatic 33,3)) cr33_33 rfl (Nat.le_of_ble_eq_true rfl) (by show 4≤4; omega) rfl
theorem m33_240 : M33 240 ls (.int y::.int x::st) H Q = if x < y then M33 243 ls st H Q else M33 259 ls st H Q:=w_icmpN (dc (.if_icmp .ge 19,3)) (i_ge x y) rfl
theorem m33_243 : M33 243 [l0,l1,l2,l3,.val (.long J1),l5,l6,l7,l8,l9,l10,l11,l12,l13,l14,l15] st H Q = M33 245 [l0,l1,l2,l3,.val (.long J1),l5,l6,l7,l8,l9,l10,l11,l12,l13,l14,l15] (.long J1::st) H Q:=w_x (dc (.lload 4,2)) rfl
theorem m33_245 : M33 245 [l0,l1,l2,l3,l4,l5,l6,l7,l8,.val (.int v),l10,l11,l12,l13,l14,l15] st H Q = M33 247 [l0,l1,l2,l3,l4,l5,l6,l7,l8,.val (.int v),l10,l11,l12,l13,l14,l15] (.int v::st) H Q:=w_x (dc (.iload 9,2)) rfl
theorem m33_247 : M33 247 ls st H Q = M33 249 ls (.int 10::st) H Q:=w_con (dc (.bipush 10,2)) rfl (by decide)
theorem m33_249 : M33 249 [l0,l1,l2,l3,l4,l5,l6,l7,l8,l9,l10,.val (.int v),l12,l13,l14,l15] st H Q = M33 251 [l0,l1,l2,l3,l4,l5,l6,l7,l8,l9,l10,.val (.int v),l12,l13,l14,l15] (.int v::st) H Q:=w_x (dc (.iload 11,2)) rfl
theorem m33_251 (a0 : Int64) (a1 : Int32) (a2 : Int32) (a3 : Int32) : M33 251 ls [.int a3,.int a2,.int a1,.long a0] H Q = M30 0 [.val (.long a0),.second,.val (.int a1),.val (.int a2),.val (.int a3),.unset,.unset] [] H (fun v H1 => M33 254 ls (v.toList ++ []) H1 Q):=w_stat (as:=[.int a3,.int a2,.int a1,.long a0]) (rest:=[]) (dc (.invokestatic 22,3)) cr33_22 rfl (Nat.le_of_ble_eq_true rfl) (by show 5≤7; omega) rfl
theorem m33_254 : M33 254 [l0,l1,l2,l3,.val (.long J2),.second,l6,l7,l8,l9,l10,l11,l12,l13,l14,l15] (.long J1::st) H Q = M33 256 [l0,l1,l2,l3,.val (.long J1),.second,l6,l7,l8,l9,l10,l11,l12,l13,l14,l15] st H Q:=w_x (dc (.lstore 4,2)) rfl
theorem m33_256 : M33 256 ls st H Q = M33 257 ls (.int 1::st) H Q:=w_con (dc (.iconst 1,1)) rfl (by decide)
theorem m33_257i : M33 257 [l0,l1,l2,l3,l4,l5,l6,.val (.int z),l8,l9,l10,l11,l12,l13,l14,l15] ((.int v)::st) H Q = M33 259 [l0,l1,l2,l3,l4,l5,l6,.val (.int v),l8,l9,l10,l11,l12,l13,l14,l15] st H Q:=w_st (i:=7) (p:=isI) (dc (.istore 7,2)) rfl rfl rfl rfl rfl rfl
theorem m33_259 : M33 259 [l0,l1,l2,l3,l4,l5,l6,l7,.val (.int v),l9,l10,l11,l12,l13,l14,l15] st H Q = M33 262 [l0,l1,l2,l3,l4,l5,l6,l7,.val (.int (v + 1)),l9,l10,l11,l12,l13,l14,l15] st H Q:=w_iinc (dc (.iinc 8 1,3)) rfl (by decide) rfl
theorem m33_262 : M33 262 ls st H Q = M33 187 ls st H Q:=w_x (dc (.goto (-75),3)) rfl
theorem m33_265 : M33 265 [l0,l1,l2,l3,l4,l5,l6,.val (.int v),l8,l9,l10,l11,l12,l13,l14,l15] st H Q = M33 267 [l0,l1,l2,l3,l4,l5,l6,.val (.int v),l8,l9,l10,l11,l12,l13,l14,l15] (.int v::st) H Q:=w_x (dc (.iload 7,2)) rfl
theorem m33_267 : M33 267 ls (.int x::st) H Q = if x = 0 then M33 270 ls st H Q else M33 272 ls st H Q:=w_ifN (dc (.ifCond .ne 5,3)) (z_ne x) rfl
theorem m33_270 : M33 270 ls st H Q = M33 271 ls (.int 1::st) H Q:=w_con (dc (.iconst 1,1)) rfl (by decide)
theorem m33_271 : M33 271 ls (.int z::st) H Q = Q (some (.int (nar .boolean z))) H:=w_iretN (dc (.ireturn,1)) rfl (by simp)
theorem m33_272 : M33 272 [l0,l1,l2,l3,l4,l5,.val (.int v),l7,l8,l9,l10,l11,l12,l13,l14,l15] st H Q = M33 275 [l0,l1,l2,l3,l4,l5,.val (.int (v + 1)),l7,l8,l9,l10,l11,l12,l13,l14,l15] st H Q:=w_iinc (dc (.iinc 6 1,3)) rfl (by decide) rfl
theorem m33_275 : M33 275 ls st H Q = M33 35 ls st H Q:=w_x (dc (.goto (-240),3)) rfl
theorem m33_278 : M33 278 ls st H Q = M33 279 ls (.int 0::st) H Q:=w_con (dc (.iconst 0,1)) rfl (by decide)
theorem m33_279 : M33 279 ls (.int z::st) H Q = Q (some (.int (nar .boolean z))) H:=w_iretN (dc (.ireturn,1)) rfl (by simp)
theorem m34_0 : M34 0 ls st H Q = M34 1 ls (.int 1::st) H Q:=w_con at_0 rfl (by decide)
theorem m34_1 : M34 1 [.val (.ref r),l1,l2,l3,l4,l5,l6,l7,l8,l9,l10,l11,l12,l13,l14,l15,l16,l17] st H Q = M34 2 [.val (.ref r),l1,l2,l3,l4,l5,l6,l7,l8,l9,l10,l11,l12,l13,l14,l15,l16,l17] (.ref r::st) H Q:=w_x at_1 rfl
theorem m34_2 : M34 2 ls st H Q = M34 3 ls (.int 0::st) H Q:=w_con at_2 rfl (by decide)
theorem cr34_7 : sR tables_1 dn y34 7 = some (y23,method_2_code,2,(some .int),2,69):=sR_of (cR_of (by decide +kernel) rc_23 dn_23 dn_34 (sig:=⟨[.array .int,.int],some .int⟩) (by decide +kernel) (by decide +kernel) rfl rfl) (by decide +kernel)
theorem m34_3 (a0 : Nat) (a1 : Int32) (u0 : Int32) : M34 3 ls [.int a1,.ref a0,.int u0] H Q = M23 0 [.val (.ref a0),.val (.int a1)] [] H (fun v H1 => M34 6 ls (v.toList ++ [.int u0]) H1 Q):=w_stat (as:=[.int a1,.ref a0]) (rest:=[.int u0]) at_3 cr34_7 rfl (Nat.le_of_ble_eq_true rfl) (by show 2≤2; omega) rfl
theorem m34_6 : M34 6 ls st H Q = M34 7 ls (.int 5::st) H Q:=w_con at_6 rfl (by decide)
theorem cr34_13 : sR tables_1 dn y34 13 = some (y24,method_3_code,3,(some .int),2,68):=sR_of (cR_of (by decide +kernel) rc_24 dn_24 dn_34 (sig:=⟨[.int,.int],some .int⟩) (by decide +kernel) (by decide +kernel) rfl rfl) (by decide +kernel)
theorem m34_7 (a0 : Int32) (a1 : Int32) (u0 : Int32) : M34 7 ls [.int a1,.int a0,.int u0] H Q = M24 0 [.val (.int a0),.val (.int a1),.unset] [] H (fun v H1 => M34 10 ls (v.toList ++ [.int u0]) H1 Q):=w_stat (as:=[.int a1,.int a0]) (rest:=[.int u0]) at_7 cr34_13 rfl (Nat.le_of_ble_eq_true rfl) (by show 2≤3; omega) rfl
theorem m34_10 : M34 10 ls (.int y::.int x::st) H Q = M34 11 ls (.int (x + y)::st) H Q:=w_x at_10 rfl
theorem m34_11u : M34 11 [l0,.unset,l2,l3,l4,l5,l6,l7,l8,l9,l10,l11,l12,l13,l14,l15,l16,l17] ((.int v)::st) H Q = M34 12 [l0,.val (.int v),l2,l3,l4,l5,l6,l7,l8,l9,l10,l11,l12,l13,l14,l15,l16,l17] st H Q:=w_st (i:=1) (p:=isI) at_11 rfl rfl rfl rfl rfl rfl
theorem m34_12 : M34 12 ls st H Q = M34 15 ls (.ref H.length::st) (H ++ [(.object "RetimingEngine", D0)]) Q:=(w_new (C := "RetimingEngine") at_12 (by rw [hNew,show rCls tables_1 y34.cls 44 = some "RetimingEngine" from by decide +kernel]; dsimp only; rw [if_pos (by decide +kernel)])).trans (by rw [lay0]; rfl)
theorem m34_15 : M34 15 ls ((.ref r)::st) H Q = M34 16 ls ((.ref r)::(.ref r)::st) H Q:=w_x at_15 rfl
theorem cr34_46 : nR tables_1 dn y34 46 = some (y0,prog_1_method_1_code,1,none,0,58):=nR_of (cR_of (by decide +kernel) rc_0 dn_0 dn_34 (sig:=⟨[],none⟩) (by decide +kernel) (by decide +kernel) rfl rfl) rfl (by decide +kernel) rfl
theorem cr34_46_o : oR tables_1 dn y34 46 = none:=by decide +kernel
theorem m34_16 (u0 : Nat) : M34 16 ls [.ref r,.ref u0] H Q = M0 0 [.val (.ref r)] [] H (fun v H1 => M34 19 ls (v.toList ++ [.ref u0]) H1 Q):=w_spec (as:=[]) (rest:=[.ref u0]) (a:=r) at_16 cr34_46_o cr34_46 rfl (Nat.le_of_ble_eq_true rfl) (by show 1≤1; omega) rfl
theorem m34_19u : M34 19 [l0,l1,.unset,l3,l4,l5,l6,l7,l8,l9,l10,l11,l12,l13,l14,l15,l16,l17] ((.ref r)::st) H Q = M34 20 [l0,l1,.val (.ref r),l3,l4,l5,l6,l7,l8,l9,l10,l11,l12,l13,l14,l15,l16,l17] st H Q:=w_st (i:=2) (p:=Value.isRef) at_19 rfl rfl rfl rfl rfl rfl
theorem m34_20 : M34 20 ls st H Q = M34 21 ls (.int 0::st) H Q:=w_con at_20 rfl (by decide)
theorem m34_21u : M34 21 [l0,l1,l2,.unset,l4,l5,l6,l7,l8,l9,l10,l11,l12,l13,l14,l15,l16,l17] ((.int v)::st) H Q = M34 22 [l0,l1,l2,.val (.int v),l4,l5,l6,l7,l8,l9,l10,l11,l12,l13,l14,l15,l16,l17] st H Q:=w_st (i:=3) (p:=isI) at_21 rfl rfl rfl rfl rfl rfl
theorem m34_22 : M34 22 [l0,l1,l2,.val (.int v),l4,l5,l6,l7,l8,l9,l10,l11,l12,l13,l14,l15,l16,l17] st H Q = M34 23 [l0,l1,l2,.val (.int v),l4,l5,l6,l7,l8,l9,l10,l11,l12,l13,l14,l15,l16,l17] (.int v::st) H Q:=w_x at_22 rfl
theorem m34_23 : M34 23 [l0,.val (.int v),l2,l3,l4,l5,l6,l7,l8,l9,l10,l11,l12,l13,l14,l15,l16,l17] st H Q = M34 24 [l0,.val (.int v),l2,l3,l4,l5,l6,l7,l8,l9,l10,l11,l12,l13,l14,l15,l16,l17] (.int v::st) H Q:=w_x at_23 rfl
theorem m34_24 : M34 24 ls (.int y::.int x::st) H Q = if x < y then M34 27 ls st H Q else M34 70 ls st H Q:=w_icmpN at_24 (i_ge x y) rfl
theorem m34_27 : M34 27 [l0,l1,.val (.ref r),l3,l4,l5,l6,l7,l8,l9,l10,l11,l12,l13,l14,l15,l16,l17] st H Q = M34 28 [l0,l1,.val (.ref r),l3,l4,l5,l6,l7,l8,l9,l10,l11,l12,l13,l14,l15,l16,l17] (.ref r::st) H Q:=w_x at_27 rfl
theorem m34_28 : M34 28 [.val (.ref r),l1,l2,l3,l4,l5,l6,l7,l8,l9,l10,l11,l12,l13,l14,l15,l16,l17] st H Q = M34 29 [.val (.ref r),l1,l2,l3,l4,l5,l6,l7,l8,l9,l10,l11,l12,l13,l14,l15,l16,l17] (.ref r::st) H Q:=w_x at_28 rfl
theorem m34_29 : M34 29 ls st H Q = M34 30 ls (.int 1::st) H Q:=w_con at_29 rfl (by decide)
theorem m34_30 : M34 30 ls st H Q = M34 31 ls (.int 3::st) H Q:=w_con at_30 rfl (by decide)
theorem m34_31 : M34 31 [l0,l1,l2,.val (.int v),l4,l5,l6,l7,l8,l9,l10,l11,l12,l13,l14,l15,l16,l17] st H Q = M34 32 [l0,l1,l2,.val (.int v),l4,l5,l6,l7,l8,l9,l10,l11,l12,l13,l14,l15,l16,l17] (.int v::st) H Q:=w_x at_31 rfl
theorem m34_32 : M34 32 ls (.int y::.int x::st) H Q = M34 33 ls (.int (x * y)::st) H Q:=w_x at_32 rfl
theorem m34_33 : M34 33 ls (.int y::.int x::st) H Q = M34 34 ls (.int (x + y)::st) H Q:=w_x at_33 rfl
theorem m34_34 (a0 : Nat) (a1 : Int32) (u0 : Nat) : M34 34 ls [.int a1,.ref a0,.ref u0] H Q = M23 0 [.val (.ref a0),.val (.int a1)] [] H (fun v H1 => M34 37 ls (v.toList ++ [.ref u0]) H1 Q):=w_stat (as:=[.int a1,.ref a0]) (rest:=[.ref u0]) at_34 cr34_7 rfl (Nat.le_of_ble_eq_true rfl) (by show 2≤2; omega) rfl
theorem m34_37 : M34 37 ls st H Q = M34 38 ls (.int 4::st) H Q:=w_con at_37 rfl (by decide)
theorem m34_38 (a0 : Int32) (a1 : Int32) (u0 : Nat) : M34 38 ls [.int a1,.int a0,.ref u0] H Q = M24 0 [.val (.int a0),.val (.int a1),.unset] [] H (fun v H1 => M34 41 ls (v.toList ++ [.ref u0]) H1 Q):=w_stat (as:=[.int a1,.int a0]) (rest:=[.ref u0]) at_38 cr34_13 rfl (Nat.le_of_ble_eq_true rfl) (by show 2≤3; omega) rfl
theorem m34_41 : M34 41 [.val (.ref r),l1,l2,l3,l4,l5,l6,l7,l8,l9,l10,l11,l12,l13,l14,l15,l16,l17] st H Q = M34 42 [.val (.ref r),l1,l2,l3,l4,l5,l6,l7,l8,l9,l10,l11,l12,l13,l14,l15,l16,l17] (.ref r::st) H Q:=w_x at_41 rfl
theorem m34_42 : M34 42 [l0,l1,l2,.val (.int v),l4,l5,l6,l7,l8,l9,l10,l11,l12,l13,l14,l15,l16,l17] st H Q = M34 43 [l0,l1,l2,.val (.int v),l4,l5,l6,l7,l8,l9,l10,l11,l12,l13,l14,l15,l16,l17] (.int v::st) H Q:=w_x at_42 rfl
theorem cr34_19 : sR tables_1 dn y34 19 = some (y25,method_4_code,2,(some .int),2,55):=sR_of (cR_of (by decide +kernel) rc_25 dn_25 dn_34 (sig:=⟨[.array .int,.int],some .int⟩) (by decide +kernel) (by decide +kernel) rfl rfl) (by decide +kernel)
theorem m34_43 (a0 : Nat) (a1 : Int32) (u0 : Int32) (u1 : Nat) : M34 43 ls [.int a1,.ref a0,.int u0,.ref u1] H Q = M25 0 [.val (.ref a0),.val (.int a1)] [] H (fun v H1 => M34 46 ls (v.toList ++ [.int u0,.ref u1]) H1 Q):=w_stat (as:=[.int a1,.ref a0]) (rest:=[.int u0,.ref u1]) at_43 cr34_19 rfl (Nat.le_of_ble_eq_true rfl) (by show 2≤2; omega) rfl
theorem m34_46 : M34 46 [.val (.ref r),l1,l2,l3,l4,l5,l6,l7,l8,l9,l10,l11,l12,l13,l14,l15,l16,l17] st H Q = M34 47 [.val (.ref r),l1,l2,l3,l4,l5,l6,l7,l8,l9,l10,l11,l12,l13,l14,l15,l16,l17] (.ref r::st) H Q:=w_x at_46 rfl
theorem m34_47 : M34 47 ls st H Q = M34 48 ls (.int 3::st) H Q:=w_con at_47 rfl (by decide)
theorem m34_48 : M34 48 ls st H Q = M34 49 ls (.int 3::st) H Q:=w_con at_48 rfl (by decide)
theorem m34_49 : M34 49 [l0,l1,l2,.val (.int v),l4,l5,l6,l7,l8,l9,l10,l11,l12,l13,l14,l15,l16,l17] st H Q = M34 50 [l0,l1,l2,.val (.int v),l4,l5,l6,l7,l8,l9,l10,l11,l12,l13,l14,l15,l16,l17] (.int v::st) H Q:=w_x at_49 rfl
theorem m34_50 : M34 50 ls (.int y::.int x::st) H Q = M34 51 ls (.int (x * y)::st) H Q:=w_x at_50 rfl
theorem m34_51 : M34 51 ls (.int y::.int x::st) H Q = M34 52 ls (.int (x + y)::st) H Q:=w_x at_51 rfl
theorem m34_52 (a0 : Nat) (a1 : Int32) (u0 : Int32) (u1 : Int32) (u2 : Nat) : M34 52 ls [.int a1,.ref a0,.int u0,.int u1,.ref u2] H Q = M23 0 [.val (.ref a0),.val (.int a1)] [] H (fun v H1 => M34 55 ls (v.toList ++ [.int u0,.int u1,.ref u2]) H1 Q):=w_stat (as:=[.int a1,.ref a0]) (rest:=[.int u0,.int u1,.ref u2]) at_52 cr34_7 rfl (Nat.le_of_ble_eq_true rfl) (by show 2≤2; omega) rfl
theorem cr34_47 : vR tables_1 dn y34 47 = some (false,y1,prog_1_method_2_code,4,(some .int),3,67):=vR_of (cR_of (by decide +kernel) rc_1 dn_1 dn_34 (sig:=⟨[.int,.int,.int],some .int⟩) (by decide +kernel) (by decide +kernel) rfl rfl) (by decide +kernel) (by decide +kernel) (by decide +kernel)
theorem m34_55 (a0 : Int32) (a1 : Int32) (a2 : Int32) : M34 55 ls [.int a2,.int a1,.int a0,.ref (b + 1)] (put (b + 1) e s A g) Q = M1 0 [.val (.ref (b + 1)),.val (.int a0),.val (.int a1),.val (.int a2)] [] (put (b + 1) e s A g) (fun v H1 => M34 58 ls (v.toList ++ []) H1 Q):=w_virt (as:=[.int a2,.int a1,.int a0]) (rest:=[]) (a:=(b + 1)) at_55 cr34_47 put_o rfl rfl (Nat.le_of_ble_eq_true rfl) (by show 4≤4; omega) rfl
theorem m34_58 : M34 58 [l0,l1,l2,.val (.int v),l4,l5,l6,l7,l8,l9,l10,l11,l12,l13,l14,l15,l16,l17] st H Q = M34 59 [l0,l1,l2,.val (.int v),l4,l5,l6,l7,l8,l9,l10,l11,l12,l13,l14,l15,l16,l17] (.int v::st) H Q:=w_x at_58 rfl
theorem m34_59 : M34 59 ls (.int y::.int x::st) H Q = if x = y then M34 64 ls st H Q else M34 62 ls st H Q:=w_icmp at_59 (i_eq x y) rfl
theorem m34_62 : M34 62 ls st H Q = M34 63 ls (.int 0::st) H Q:=w_con at_62 rfl (by decide)
theorem m34_63 : M34 63 ls (.int z::st) H Q = Q (some (.int (nar .boolean z))) H:=w_iretN at_63 rfl (by simp)
theorem m34_64 : M34 64 [l0,l1,l2,.val (.int v),l4,l5,l6,l7,l8,l9,l10,l11,l12,l13,l14,l15,l16,l17] st H Q = M34 67 [l0,l1,l2,.val (.int (v + 1)),l4,l5,l6,l7,l8,l9,l10,l11,l12,l13,l14,l15,l16,l17] st H Q:=w_iinc at_64 rfl (by decide) rfl
theorem m34_67 : M34 67 ls st H Q = M34 22 ls st H Q:=w_x at_67 rfl
theorem m34_70 : M34 70 [.val (.ref r),l1,l2,l3,l4,l5,l6,l7,l8,l9,l10,l11,l12,l13,l14,l15,l16,l17] st H Q = M34 71 [.val (.ref r),l1,l2,l3,l4,l5,l6,l7,l8,l9,l10,l11,l12,l13,l14,l15,l16,l17] (.ref r::st) H Q:=w_x at_70 rfl
theorem m34_71 : M34 71 ls st H Q = M34 73 ls (.int 16::st) H Q:=w_con at_71 rfl (by decide)
theorem m34_73 (a0 : Nat) (a1 : Int32) : M34 73 ls [.int a1,.ref a0] H Q = M23 0 [.val (.ref a0),.val (.int a1)] [] H (fun v H1 => M34 76 ls (v.toList ++ []) H1 Q):=w_stat (as:=[.int a1,.ref a0]) (rest:=[]) at_73 cr34_7 rfl (Nat.le_of_ble_eq_true rfl) (by show 2≤2; omega) rfl
theorem m34_76 : M34 76 ls st H Q = M34 78 ls (.int 11::st) H Q:=w_con at_76 rfl (by decide)
theorem m34_78 (a0 : Int32) (a1 : Int32) : M34 78 ls [.int a1,.int a0] H Q = M24 0 [.val (.int a0),.val (.int a1),.unset] [] H (fun v H1 => M34 81 ls (v.toList ++ []) H1 Q):=w_stat (as:=[.int a1,.int a0]) (rest:=[]) at_78 cr34_13 rfl (Nat.le_of_ble_eq_true rfl) (by show 2≤3; omega) rfl
theorem m34_81i : M34 81 [l0,l1,l2,.val (.int z),l4,l5,l6,l7,l8,l9,l10,l11,l12,l13,l14,l15,l16,l17] ((.int v)::st) H Q = M34 82 [l0,l1,l2,.val (.int v),l4,l5,l6,l7,l8,l9,l10,l11,l12,l13,l14,l15,l16,l17] st H Q:=w_st (i:=3) (p:=isI) at_81 rfl rfl rfl rfl rfl rfl
theorem m34_82 : M34 82 ls st H Q = M34 83 ls (.long 0::st) H Q:=w_con at_82 rfl (by decide)
theorem m34_83 : M34 83 [l0,l1,l2,l3,.unset,.unset,l6,l7,l8,l9,l10,l11,l12,l13,l14,l15,l16,l17] (.long J1::st) H Q = M34 85 [l0,l1,l2,l3,.val (.long J1),.second,l6,l7,l8,l9,l10,l11,l12,l13,l14,l15,l16,l17] st H Q:=w_x at_83 rfl
theorem m34_85 : M34 85 ls st H Q = M34 86 ls (.int 0::st) H Q:=w_con at_85 rfl (by decide)
theorem m34_86u : M34 86 [l0,l1,l2,l3,l4,l5,.unset,l7,l8,l9,l10,l11,l12,l13,l14,l15,l16,l17] ((.int v)::st) H Q = M34 88 [l0,l1,l2,l3,l4,l5,.val (.int v),l7,l8,l9,l10,l11,l12,l13,l14,l15,l16,l17] st H Q:=w_st (i:=6) (p:=isI) at_86 rfl rfl rfl rfl rfl rfl
theorem m34_88 : M34 88 [l0,l1,l2,l3,l4,l5,.val (.int v),l7,l8,l9,l10,l11,l12,l13,l14,l15,l16,l17] st H Q = M34 90 [l0,l1,l2,l3,l4,l5,.val (.int v),l7,l8,l9,l10,l11,l12,l13,l14,l15,l16,l17] (.int v::st) H Q:=w_x at_88 rfl
theorem m34_90 : M34 90 [l0,l1,l2,.val (.int v),l4,l5,l6,l7,l8,l9,l10,l11,l12,l13,l14,l15,l16,l17] st H Q = M34 91 [l0,l1,l2,.val (.int v),l4,l5,l6,l7,l8,l9,l10,l11,l12,l13,l14,l15,l16,l17] (.int v::st) H Q:=w_x at_90 rfl
theorem m34_91 : M34 91 ls (.int y::.int x::st) H Q = if x < y then M34 94 ls st H Q else M34 149 ls st H Q:=w_icmpN at_91 (i_ge x y) rfl
theorem m34_94 : M34 94 [l0,l1,.val (.ref r),l3,l4,l5,l6,l7,l8,l9,l10,l11,l12,l13,l14,l15,l16,l17] st H Q = M34 95 [l0,l1,.val (.ref r),l3,l4,l5,l6,l7,l8,l9,l10,l11,l12,l13,l14,l15,l16,l17] (.ref r::st) H Q:=w_x at_94 rfl
theorem m34_95 : M34 95 [.val (.ref r),l1,l2,l3,l4,l5,l6,l7,l8,l9,l10,l11,l12,l13,l14,l15,l16,l17] st H Q = M34 96 [.val (.ref r),l1,l2,l3,l4,l5,l6,l7,l8,l9,l10,l11,l12,l13,l14,l15,l16,l17] (.ref r::st) H Q:=w_x at_95 rfl
theorem m34_96 : M34 96 [l0,.val (.int v),l2,l3,l4,l5,l6,l7,l8,l9,l10,l11,l12,l13,l14,l15,l16,l17] st H Q = M34 97 [l0,.val (.int v),l2,l3,l4,l5,l6,l7,l8,l9,l10,l11,l12,l13,l14,l15,l16,l17] (.int v::st) H Q:=w_x at_96 rfl
theorem m34_97 : M34 97 [l0,l1,l2,l3,l4,l5,.val (.int v),l7,l8,l9,l10,l11,l12,l13,l14,l15,l16,l17] st H Q = M34 99 [l0,l1,l2,l3,l4,l5,.val (.int v),l7,l8,l9,l10,l11,l12,l13,l14,l15,l16,l17] (.int v::st) H Q:=w_x at_97 rfl
theorem cr34_26 : sR tables_1 dn y34 26 = some (y26,method_5_code,3,(some .int),3,54):=sR_of (cR_of (by decide +kernel) rc_26 dn_26 dn_34 (sig:=⟨[.array .int,.int,.int],some .int⟩) (by decide +kernel) (by decide +kernel) rfl rfl) (by decide +kernel)
theorem m34_99 (a0 : Nat) (a1 : Int32) (a2 : Int32) (u0 : Nat) : M34 99 ls [.int a2,.int a1,.ref a0,.ref u0] H Q = M26 0 [.val (.ref a0),.val (.int a1),.val (.int a2)] [] H (fun v H1 => M34 102 ls (v.toList ++ [.ref u0]) H1 Q):=w_stat (as:=[.int a2,.int a1,.ref a0]) (rest:=[.ref u0]) at_99 cr34_26 rfl (Nat.le_of_ble_eq_true rfl) (by show 3≤3; omega) rfl
theorem m34_102 : M34 102 [.val (.ref r),l1,l2,l3,l4,l5,l6,l7,l8,l9,l10,l11,l12,l13,l14,l15,l16,l17] st H Q = M34 103 [.val (.ref r),l1,l2,l3,l4,l5,l6,l7,l8,l9,l10,l11,l12,l13,l14,l15,l16,l17] (.ref r::st) H Q:=w_x at_102 rfl
theorem m34_103 : M34 103 [l0,.val (.int v),l2,l3,l4,l5,l6,l7,l8,l9,l10,l11,l12,l13,l14,l15,l16,l17] st H Q = M34 104 [l0,.val (.int v),l2,l3,l4,l5,l6,l7,l8,l9,l10,l11,l12,l13,l14,l15,l16,l17] (.int v::st) H Q:=w_x at_103 rfl
theorem m34_104 : M34 104 [l0,l1,l2,l3,l4,l5,.val (.int v),l7,l8,l9,l10,l11,l12,l13,l14,l15,l16,l17] st H Q = M34 106 [l0,l1,l2,l3,l4,l5,.val (.int v),l7,l8,l9,l10,l11,l12,l13,l14,l15,l16,l17] (.int v::st) H Q:=w_x at_104 rfl
theorem cr34_30 : sR tables_1 dn y34 30 = some (y27,method_6_code,3,(some .int),3,54):=sR_of (cR_of (by decide +kernel) rc_27 dn_27 dn_34 (sig:=⟨[.array .int,.int,.int],some .int⟩) (by decide +kernel) (by decide +kernel) rfl rfl) (by decide +kernel)
theorem m34_106 (a0 : Nat) (a1 : Int32) (a2 : Int32) (u0 : Int32) (u1 : Nat) : M34 106 ls [.int a2,.int a1,.ref a0,.int u0,.ref u1] H Q = M27 0 [.val (.ref a0),.val (.int a1),.val (.int a2)] [] H (fun v H1 => M34 109 ls (v.toList ++ [.int u0,.ref u1]) H1 Q):=w_stat (as:=[.int a2,.int a1,.ref a0]) (rest:=[.int u0,.ref u1]) at_106 cr34_30 rfl (Nat.le_of_ble_eq_true rfl) (by show 3≤3; omega) rfl
theorem m34_109 : M34 109 [.val (.ref r),l1,l2,l3,l4,l5,l6,l7,l8,l9,l10,l11,l12,l13,l14,l15,l16,l17] st H Q = M34 110 [.val (.ref r),l1,l2,l3,l4,l5,l6,l7,l8,l9,l10,l11,l12,l13,l14,l15,l16,l17] (.ref r::st) H Q:=w_x at_109 rfl
theorem m34_110 : M34 110 [l0,l1,l2,l3,l4,l5,.val (.int v),l7,l8,l9,l10,l11,l12,l13,l14,l15,l16,l17] st H Q = M34 112 [l0,l1,l2,l3,l4,l5,.val (.int v),l7,l8,l9,l10,l11,l12,l13,l14,l15,l16,l17] (.int v::st) H Q:=w_x at_110 rfl
theorem cr34_37 : sR tables_1 dn y34 37 = some (y28,method_7_code,2,(some .int),2,55):=sR_of (cR_of (by decide +kernel) rc_28 dn_28 dn_34 (sig:=⟨[.array .int,.int],some .int⟩) (by decide +kernel) (by decide +kernel) rfl rfl) (by decide +kernel)
theorem m34_112 (a0 : Nat) (a1 : Int32) (u0 : Int32) (u1 : Int32) (u2 : Nat) : M34 112 ls [.int a1,.ref a0,.int u0,.int u1,.ref u2] H Q = M28 0 [.val (.ref a0),.val (.int a1)] [] H (fun v H1 => M34 115 ls (v.toList ++ [.int u0,.int u1,.ref u2]) H1 Q):=w_stat (as:=[.int a1,.ref a0]) (rest:=[.int u0,.int u1,.ref u2]) at_112 cr34_37 rfl (Nat.le_of_ble_eq_true rfl) (by show 2≤2; omega) rfl
theorem cr34_51 : vR tables_1 dn y34 51 = some (false,y2,prog_1_method_3_code,4,(some .int),3,67):=vR_of (cR_of (by decide +kernel) rc_2 dn_2 dn_34 (sig:=⟨[.int,.int,.int],some .int⟩) (by decide +kernel) (by decide +kernel) rfl rfl) (by decide +kernel) (by decide +kernel) (by decide +kernel)
theorem m34_115 (a0 : Int32) (a1 : Int32) (a2 : Int32) : M34 115 ls [.int a2,.int a1,.int a0,.ref (b + 1)] (put (b + 1) e s A g) Q = M2 0 [.val (.ref (b + 1)),.val (.int a0),.val (.int a1),.val (.int a2)] [] (put (b + 1) e s A g) (fun v H1 => M34 118 ls (v.toList ++ []) H1 Q):=w_virt (as:=[.int a2,.int a1,.int a0]) (rest:=[]) (a:=(b + 1)) at_115 cr34_51 put_o rfl rfl (Nat.le_of_ble_eq_true rfl) (by show 4≤4; omega) rfl
theorem m34_118 : M34 118 [l0,l1,l2,l3,l4,l5,.val (.int v),l7,l8,l9,l10,l11,l12,l13,l14,l15,l16,l17] st H Q = M34 120 [l0,l1,l2,l3,l4,l5,.val (.int v),l7,l8,l9,l10,l11,l12,l13,l14,l15,l16,l17] (.int v::st) H Q:=w_x at_118 rfl
theorem m34_120 : M34 120 ls (.int y::.int x::st) H Q = if x = y then M34 125 ls st H Q else M34 123 ls st H Q:=w_icmp at_120 (i_eq x y) rfl
theorem m34_123 : M34 123 ls st H Q = M34 124 ls (.int 0::st) H Q:=w_con at_123 rfl (by decide)
theorem m34_124 : M34 124 ls (.int z::st) H Q = Q (some (.int (nar .boolean z))) H:=w_iretN at_124 rfl (by simp)
theorem m34_125 : M34 125 [.val (.ref r),l1,l2,l3,l4,l5,l6,l7,l8,l9,l10,l11,l12,l13,l14,l15,l16,l17] st H Q = M34 126 [.val (.ref r),l1,l2,l3,l4,l5,l6,l7,l8,l9,l10,l11,l12,l13,l14,l15,l16,l17] (.ref r::st) H Q:=w_x at_125 rfl
theorem m34_126 : M34 126 [l0,l1,l2,l3,l4,l5,.val (.int v),l7,l8,l9,l10,l11,l12,l13,l14,l15,l16,l17] st H Q = M34 128 [l0,l1,l2,l3,l4,l5,.val (.int v),l7,l8,l9,l10,l11,l12,l13,l14,l15,l16,l17] (.int v::st) H Q:=w_x at_126 rfl
theorem m34_128 (a0 : Nat) (a1 : Int32) : M34 128 ls [.int a1,.ref a0] H Q = M28 0 [.val (.ref a0),.val (.int a1)] [] H (fun v H1 => M34 131 ls (v.toList ++ []) H1 Q):=w_stat (as:=[.int a1,.ref a0]) (rest:=[]) at_128 cr34_37 rfl (Nat.le_of_ble_eq_true rfl) (by show 2≤2; omega) rfl
theorem m34_131 : M34 131 ls (.int x::st) H Q = if x = 0 then M34 134 ls st H Q else M34 143 ls st H Q:=w_ifN at_131 (z_ne x) rfl
theorem m34_134 : M34 134 [l0,l1,l2,l3,.val (.long J1),l5,l6,l7,l8,l9,l10,l11,l12,l13,l14,l15,l16,l17] st H Q = M34 136 [l0,l1,l2,l3,.val (.long J1),l5,l6,l7,l8,l9,l10,l11,l12,l13,l14,l15,l16,l17] (.long J1::st) H Q:=w_x at_134 rfl
theorem m34_136 : M34 136 ls st H Q = M34 137 ls (.long 1::st) H Q:=w_con at_136 rfl (by decide)
theorem m34_137 : M34 137 [l0,l1,l2,l3,l4,l5,.val (.int v),l7,l8,l9,l10,l11,l12,l13,l14,l15,l16,l17] st H Q = M34 139 [l0,l1,l2,l3,l4,l5,.val (.int v),l7,l8,l9,l10,l11,l12,l13,l14,l15,l16,l17] (.int v::st) H Q:=w_x at_137 rfl
theorem m34_139 : M34 139 ls (.int y::.long J1::st) H Q = M34 140 ls (.long (J1 <<< (y.toInt64 &&& 63))::st) H Q:=w_x at_139 rfl
theorem m34_140 : M34 140 ls (.long J2::.long J1::st) H Q = M34 141 ls (.long (J1 ||| J2)::st) H Q:=w_x at_140 rfl
theorem m34_141 : M34 141 [l0,l1,l2,l3,.val (.long J2),.second,l6,l7,l8,l9,l10,l11,l12,l13,l14,l15,l16,l17] (.long J1::st) H Q = M34 143 [l0,l1,l2,l3,.val (.long J1),.second,l6,l7,l8,l9,l10,l11,l12,l13,l14,l15,l16,l17] st H Q:=w_x at_141 rfl
theorem m34_143 : M34 143 [l0,l1,l2,l3,l4,l5,.val (.int v),l7,l8,l9,l10,l11,l12,l13,l14,l15,l16,l17] st H Q = M34 146 [l0,l1,l2,l3,l4,l5,.val (.int (v + 1)),l7,l8,l9,l10,l11,l12,l13,l14,l15,l16,l17] st H Q:=w_iinc at_143 rfl (by decide) rfl
theorem m34_146 : M34 146 ls st H Q = M34 88 ls st H Q:=w_x at_146 rfl
theorem m34_149 : M34 149 [l0,l1,.val (.ref r),l3,l4,l5,l6,l7,l8,l9,l10,l11,l12,l13,l14,l15,l16,l17] st H Q = M34 150 [l0,l1,.val (.ref r),l3,l4,l5,l6,l7,l8,l9,l10,l11,l12,l13,l14,l15,l16,l17] (.ref r::st) H Q:=w_x at_149 rfl
theorem cr34_54 : vR tables_1 dn y34 54 = some (false,y3,prog_1_method_4_code,1,(some .int),0,21):=vR_of (cR_of (by decide +kernel) rc_3 dn_3 dn_34 (sig:=⟨[],some .int⟩) (by decide +kernel) (by decide +kernel) rfl rfl) (by decide +kernel) (by decide +kernel) (by decide +kernel)
theorem m34_150 : M34 150 ls [.ref (b + 1)] (put (b + 1) e s A g) Q = M3 0 [.val (.ref (b + 1))] [] (put (b + 1) e s A g) (fun v H1 => M34 153 ls (v.toList ++ []) H1 Q):=w_virt (as:=[]) (rest:=[]) (a:=(b + 1)) at_150 cr34_54 put_o rfl rfl (Nat.le_of_ble_eq_true rfl) (by show 1≤1; omega) rfl
theorem m34_153i : M34 153 [l0,l1,l2,l3,l4,l5,.val (.int z),l7,l8,l9,l10,l11,l12,l13,l14,l15,l16,l17] ((.int v)::st) H Q = M34 155 [l0,l1,l2,l3,l4,l5,.val (.int v),l7,l8,l9,l10,l11,l12,l13,l14,l15,l16,l17] st H Q:=w_st (i:=6) (p:=isI) at_153 rfl rfl rfl rfl rfl rfl
theorem m34_155 : M34 155 [.val (.ref r),l1,l2,l3,l4,l5,l6,l7,l8,l9,l10,l11,l12,l13,l14,l15,l16,l17] st H Q = M34 156 [.val (.ref r),l1,l2,l3,l4,l5,l6,l7,l8,l9,l10,l11,l12,l13,l14,l15,l16,l17] (.ref r::st) H Q:=w_x at_155 rfl
theorem m34_156 : M34 156 [l0,.val (.int v),l2,l3,l4,l5,l6,l7,l8,l9,l10,l11,l12,l13,l14,l15,l16,l17] st H Q = M34 157 [l0,.val (.int v),l2,l3,l4,l5,l6,l7,l8,l9,l10,l11,l12,l13,l14,l15,l16,l17] (.int v::st) H Q:=w_x at_156 rfl
theorem m34_157 : M34 157 [l0,l1,l2,.val (.int v),l4,l5,l6,l7,l8,l9,l10,l11,l12,l13,l14,l15,l16,l17] st H Q = M34 158 [l0,l1,l2,.val (.int v),l4,l5,l6,l7,l8,l9,l10,l11,l12,l13,l14,l15,l16,l17] (.int v::st) H Q:=w_x at_157 rfl
theorem m34_158 : M34 158 [l0,l1,l2,l3,.val (.long J1),l5,l6,l7,l8,l9,l10,l11,l12,l13,l14,l15,l16,l17] st H Q = M34 160 [l0,l1,l2,l3,.val (.long J1),l5,l6,l7,l8,l9,l10,l11,l12,l13,l14,l15,l16,l17] (.long J1::st) H Q:=w_x at_158 rfl
theorem cr34_58 : sR tables_1 dn y34 58 = some (y29,method_10_code,15,(some .int),4,25):=sR_of (cR_of (by decide +kernel) rc_29 dn_29 dn_34 (sig:=⟨[.array .int,.int,.int,.long],some .int⟩) (by decide +kernel) (by decide +kernel) rfl rfl) (by decide +kernel)
theorem m34_160 (a0 : Nat) (a1 : Int32) (a2 : Int32) (a3 : Int64) : M34 160 ls [.long a3,.int a2,.int a1,.ref a0] H Q = M29 0 [.val (.ref a0),.val (.int a1),.val (.int a2),.val (.long a3),.second,.unset,.unset,.unset,.unset,.unset,.unset,.unset,.unset,.unset,.unset] [] H (fun v H1 => M34 163 ls (v.toList ++ []) H1 Q):=w_stat (as:=[.long a3,.int a2,.int a1,.ref a0]) (rest:=[]) at_160 cr34_58 rfl (Nat.le_of_ble_eq_true rfl) (by show 5≤15; omega) rfl
theorem m34_163u : M34 163 [l0,l1,l2,l3,l4,l5,l6,.unset,l8,l9,l10,l11,l12,l13,l14,l15,l16,l17] ((.int v)::st) H Q = M34 165 [l0,l1,l2,l3,l4,l5,l6,.val (.int v),l8,l9,l10,l11,l12,l13,l14,l15,l16,l17] st H Q:=w_st (i:=7) (p:=isI) at_163 rfl rfl rfl rfl rfl rfl
theorem m34_165 : M34 165 [l0,l1,l2,l3,l4,l5,l6,.val (.int v),l8,l9,l10,l11,l12,l13,l14,l15,l16,l17] st H Q = M34 167 [l0,l1,l2,l3,l4,l5,l6,.val (.int v),l8,l9,l10,l11,l12,l13,l14,l15,l16,l17] (.int v::st) H Q:=w_x at_165 rfl
theorem m34_167 : M34 167 ls (.int x::st) H Q = if x < 0 then M34 170 ls st H Q else M34 183 ls st H Q:=w_ifN at_167 (z_ge x) rfl
theorem m34_170 : M34 170 [l0,l1,l2,l3,l4,l5,.val (.int v),l7,l8,l9,l10,l11,l12,l13,l14,l15,l16,l17] st H Q = M34 172 [l0,l1,l2,l3,l4,l5,.val (.int v),l7,l8,l9,l10,l11,l12,l13,l14,l15,l16,l17] (.int v::st) H Q:=w_x at_170 rfl
theorem m34_172 : M34 172 ls st H Q = M34 174 ls (.int (-5)::st) H Q:=w_con at_172 rfl (by decide)
theorem m34_174 : M34 174 ls (.int y::.int x::st) H Q = if x = y then M34 177 ls st H Q else M34 181 ls st H Q:=w_icmpN at_174 (i_ne x y) rfl
theorem m34_177 : M34 177 ls st H Q = M34 178 ls (.int 1::st) H Q:=w_con at_177 rfl (by decide)
theorem m34_178 : M34 178 ls st H Q = M34 182 ls st H Q:=w_x at_178 rfl
theorem m34_181 : M34 181 ls st H Q = M34 182 ls (.int 0::st) H Q:=w_con at_181 rfl (by decide)
theorem m34_182 : M34 182 ls (.int z::st) H Q = Q (some (.int (nar .boolean z))) H:=w_iretN at_182 rfl (by simp)
theorem m34_183 : M34 183 [l0,l1,l2,l3,l4,l5,.val (.int v),l7,l8,l9,l10,l11,l12,l13,l14,l15,l16,l17] st H Q = M34 185 [l0,l1,l2,l3,l4,l5,.val (.int v),l7,l8,l9,l10,l11,l12,l13,l14,l15,l16,l17] (.int v::st) H Q:=w_x at_183 rfl
theorem m34_185 : M34 185 ls (.int x::st) H Q = if x < 0 then M34 188 ls st H Q else M34 190 ls st H Q:=w_ifN at_185 (z_ge x) rfl
theorem m34_188 : M34 188 ls st H Q = M34 189 ls (.int 0::st) H Q:=w_con at_188 rfl (by decide)
theorem m34_189 : M34 189 ls (.int z::st) H Q = Q (some (.int (nar .boolean z))) H:=w_iretN at_189 rfl (by simp)
theorem m34_190 : M34 190 [l0,l1,.val (.ref r),l3,l4,l5,l6,l7,l8,l9,l10,l11,l12,l13,l14,l15,l16,l17] st H Q = M34 191 [l0,l1,.val (.ref r),l3,l4,l5,l6,l7,l8,l9,l10,l11,l12,l13,l14,l15,l16,l17] (.ref r::st) H Q:=w_x at_190 rfl
theorem cr34_62 : vR tables_1 dn y34 62 = some (false,y14,prog_1_method_5_code,1,(some .int),0,70):=vR_of (cR_of (by decide +kernel) rc_14 dn_14 dn_34 (sig:=⟨[],some .int⟩) (by decide +kernel) (by decide +kernel) rfl rfl) (by decide +kernel) (by decide +kernel) (by decide +kernel)
theorem m34_191 : M34 191 ls [.ref (b + 1)] (put (b + 1) e s A g) Q = M14 0 [.val (.ref (b + 1))] [] (put (b + 1) e s A g) (fun v H1 => M34 194 ls (v.toList ++ []) H1 Q):=w_virt (as:=[]) (rest:=[]) (a:=(b + 1)) at_191 cr34_62 put_o rfl rfl (Nat.le_of_ble_eq_true rfl) (by show 1≤1; omega) rfl
theorem m34_194 : M34 194 [l0,l1,l2,.val (.int v),l4,l5,l6,l7,l8,l9,l10,l11,l12,l13,l14,l15,l16,l17] st H Q = M34 195 [l0,l1,l2,.val (.int v),l4,l5,l6,l7,l8,l9,l10,l11,l12,l13,l14,l15,l16,l17] (.int v::st) H Q:=w_x at_194 rfl
theorem m34_195 : M34 195 ls (.int y::.int x::st) H Q = if x = y then M34 200 ls st H Q else M34 198 ls st H Q:=w_icmp at_195 (i_eq x y) rfl
theorem m34_198 : M34 198 ls st H Q = M34 199 ls (.int 0::st) H Q:=w_con at_198 rfl (by decide)
theorem m34_199 : M34 199 ls (.int z::st) H Q = Q (some (.int (nar .boolean z))) H:=w_iretN at_199 rfl (by simp)
theorem m34_200 : M34 200 [l0,l1,.val (.ref r),l3,l4,l5,l6,l7,l8,l9,l10,l11,l12,l13,l14,l15,l16,l17] st H Q = M34 201 [l0,l1,.val (.ref r),l3,l4,l5,l6,l7,l8,l9,l10,l11,l12,l13,l14,l15,l16,l17] (.ref r::st) H Q:=w_x at_200 rfl
theorem cr34_65 : vR tables_1 dn y34 65 = some (false,y15,prog_1_method_6_code,1,(some .int),0,70):=vR_of (cR_of (by decide +kernel) rc_15 dn_15 dn_34 (sig:=⟨[],some .int⟩) (by decide +kernel) (by decide +kernel) rfl rfl) (by decide +kernel) (by decide +kernel) (by decide +kernel)
theorem m34_201 : M34 201 ls [.ref (b + 1)] (put (b + 1) e s A g) Q = M15 0 [.val (.ref (b + 1))] [] (put (b + 1) e s A g) (fun v H1 => M34 204 ls (v.toList ++ []) H1 Q):=w_virt (as:=[]) (rest:=[]) (a:=(b + 1)) at_201 cr34_65 put_o rfl rfl (Nat.le_of_ble_eq_true rfl) (by show 1≤1; omega) rfl
theorem m34_204 : M34 204 [l0,l1,l2,l3,l4,l5,l6,.val (.int v),l8,l9,l10,l11,l12,l13,l14,l15,l16,l17] st H Q = M34 206 [l0,l1,l2,l3,l4,l5,l6,.val (.int v),l8,l9,l10,l11,l12,l13,l14,l15,l16,l17] (.int v::st) H Q:=w_x at_204 rfl
theorem m34_206 : M34 206 ls (.int y::.int x::st) H Q = if x = y then M34 211 ls st H Q else M34 209 ls st H Q:=w_icmp at_206 (i_eq x y) rfl
theorem m34_209 : M34 209 ls st H Q = M34 210 ls (.int 0::st) H Q:=w_con at_209 rfl (by decide)
theorem m34_210 : M34 210 ls (.int z::st) H Q = Q (some (.int (nar .boolean z))) H:=w_iretN at_210 rfl (by simp)
theorem m34_211 : M34 211 [l0,l1,.val (.ref r),l3,l4,l5,l6,l7,l8,l9,l10,l11,l12,l13,l14,l15,l16,l17] st H Q = M34 212 [l0,l1,.val (.ref r),l3,l4,l5,l6,l7,l8,l9,l10,l11,l12,l13,l14,l15,l16,l17] (.ref r::st) H Q:=w_x at_211 rfl
theorem cr34_68 : vR tables_1 dn y34 68 = some (false,y16,prog_1_method_7_code,1,(some .int),0,70):=vR_of (cR_of (by decide +kernel) rc_16 dn_16 dn_34 (sig:=⟨[],some .int⟩) (by decide +kernel) (by decide +kernel) rfl rfl) (by decide +kernel) (by decide +kernel) (by decide +kernel)
theorem m34_212 : M34 212 ls [.ref (b + 1)] (put (b + 1) e s A g) Q = M16 0 [.val (.ref (b + 1))] [] (put (b + 1) e s A g) (fun v H1 => M34 215 ls (v.toList ++ []) H1 Q):=w_virt (as:=[]) (rest:=[]) (a:=(b + 1)) at_212 cr34_68 put_o rfl rfl (Nat.le_of_ble_eq_true rfl) (by show 1≤1; omega) rfl
theorem m34_215 : M34 215 [l0,l1,l2,l3,l4,l5,.val (.int v),l7,l8,l9,l10,l11,l12,l13,l14,l15,l16,l17] st H Q = M34 217 [l0,l1,l2,l3,l4,l5,.val (.int v),l7,l8,l9,l10,l11,l12,l13,l14,l15,l16,l17] (.int v::st) H Q:=w_x at_215 rfl
theorem m34_217 : M34 217 ls (.int y::.int x::st) H Q = if x = y then M34 220 ls st H Q else M34 236 ls st H Q:=w_icmpN at_217 (i_ne x y) rfl
theorem m34_220 : M34 220 [l0,l1,.val (.ref r),l3,l4,l5,l6,l7,l8,l9,l10,l11,l12,l13,l14,l15,l16,l17] st H Q = M34 221 [l0,l1,.val (.ref r),l3,l4,l5,l6,l7,l8,l9,l10,l11,l12,l13,l14,l15,l16,l17] (.ref r::st) H Q:=w_x at_220 rfl
theorem cr34_71 : vR tables_1 dn y34 71 = some (false,y17,prog_1_method_8_code,1,(some .int),0,70):=vR_of (cR_of (by decide +kernel) rc_17 dn_17 dn_34 (sig:=⟨[],some .int⟩) (by decide +kernel) (by decide +kernel) rfl rfl) (by decide +kernel) (by decide +kernel) (by decide +kernel)
theorem m34_221 : M34 221 ls [.ref (b + 1)] (put (b + 1) e s A g) Q = M17 0 [.val (.ref (b + 1))] [] (put (b + 1) e s A g) (fun v H1 => M34 224 ls (v.toList ++ []) H1 Q):=w_virt (as:=[]) (rest:=[]) (a:=(b + 1)) at_221 cr34_71 put_o rfl rfl (Nat.le_of_ble_eq_true rfl) (by show 1≤1; omega) rfl
theorem m34_224 : M34 224 [l0,l1,l2,l3,l4,l5,.val (.int v),l7,l8,l9,l10,l11,l12,l13,l14,l15,l16,l17] st H Q = M34 226 [l0,l1,l2,l3,l4,l5,.val (.int v),l7,l8,l9,l10,l11,l12,l13,l14,l15,l16,l17] (.int v::st) H Q:=w_x at_224 rfl
theorem m34_226 : M34 226 ls (.int y::.int x::st) H Q = if x = y then M34 229 ls st H Q else M34 236 ls st H Q:=w_icmpN at_226 (i_ne x y) rfl
theorem m34_229 : M34 229 [l0,l1,l2,l3,l4,l5,.val (.int v),l7,l8,l9,l10,l11,l12,l13,l14,l15,l16,l17] st H Q = M34 231 [l0,l1,l2,l3,l4,l5,.val (.int v),l7,l8,l9,l10,l11,l12,l13,l14,l15,l16,l17] (.int v::st) H Q:=w_x at_229 rfl
theorem m34_231 : M34 231 [l0,l1,l2,l3,l4,l5,l6,.val (.int v),l8,l9,l10,l11,l12,l13,l14,l15,l16,l17] st H Q = M34 233 [l0,l1,l2,l3,l4,l5,l6,.val (.int v),l8,l9,l10,l11,l12,l13,l14,l15,l16,l17] (.int v::st) H Q:=w_x at_231 rfl
theorem m34_233 : M34 233 ls (.int y::.int x::st) H Q = if y < x then M34 236 ls st H Q else M34 238 ls st H Q:=w_icmpN at_233 (i_le x y) rfl
theorem m34_236 : M34 236 ls st H Q = M34 237 ls (.int 0::st) H Q:=w_con at_236 rfl (by decide)
theorem m34_237 : M34 237 ls (.int z::st) H Q = Q (some (.int (nar .boolean z))) H:=w_iretN at_237 rfl (by simp)
theorem m34_238 : M34 238 [l0,l1,.val (.ref r),l3,l4,l5,l6,l7,l8,l9,l10,l11,l12,l13,l14,l15,l16,l17] st H Q = M34 239 [l0,l1,.val (.ref r),l3,l4,l5,l6,l7,l8,l9,l10,l11,l12,l13,l14,l15,l16,l17] (.ref r::st) H Q:=w_x at_238 rfl
theorem m34_239 : M34 239 ls st H Q = M34 240 ls (.int 0::st) H Q:=w_con at_239 rfl (by decide)
theorem cr34_74 : vR tables_1 dn y34 74 = some (false,y18,prog_1_method_11_code,2,(some .int),1,69):=vR_of (cR_of (by decide +kernel) rc_18 dn_18 dn_34 (sig:=⟨[.int],some .int⟩) (by decide +kernel) (by decide +kernel) rfl rfl) (by decide +kernel) (by decide +kernel) (by decide +kernel)
theorem m34_240 (a0 : Int32) : M34 240 ls [.int a0,.ref (b + 1)] (put (b + 1) e s A g) Q = M18 0 [.val (.ref (b + 1)),.val (.int a0)] [] (put (b + 1) e s A g) (fun v H1 => M34 243 ls (v.toList ++ []) H1 Q):=w_virt (as:=[.int a0]) (rest:=[]) (a:=(b + 1)) at_240 cr34_74 put_o rfl rfl (Nat.le_of_ble_eq_true rfl) (by show 2≤2; omega) rfl
theorem m34_243 : M34 243 ls (.int x::st) H Q = if x = 0 then M34 248 ls st H Q else M34 246 ls st H Q:=w_if at_243 (z_eq x) rfl
theorem m34_246 : M34 246 ls st H Q = M34 247 ls (.int 0::st) H Q:=w_con at_246 rfl (by decide)
theorem m34_247 : M34 247 ls (.int z::st) H Q = Q (some (.int (nar .boolean z))) H:=w_iretN at_247 rfl (by simp)
theorem m34_248 : M34 248 ls st H Q = M34 249 ls (.long 0::st) H Q:=w_con at_248 rfl (by decide)
theorem m34_249 : M34 249 [l0,l1,l2,l3,l4,l5,l6,l7,.unset,.unset,l10,l11,l12,l13,l14,l15,l16,l17] (.long J1::st) H Q = M34 251 [l0,l1,l2,l3,l4,l5,l6,l7,.val (.long J1),.second,l10,l11,l12,l13,l14,l15,l16,l17] st H Q:=w_x at_249 rfl
theorem m34_251 : M34 251 ls st H Q = M34 252 ls (.int 0::st) H Q:=w_con at_251 rfl (by decide)
theorem m34_252u : M34 252 [l0,l1,l2,l3,l4,l5,l6,l7,l8,l9,.unset,l11,l12,l13,l14,l15,l16,l17] ((.int v)::st) H Q = M34 254 [l0,l1,l2,l3,l4,l5,l6,l7,l8,l9,.val (.int v),l11,l12,l13,l14,l15,l16,l17] st H Q:=w_st (i:=10) (p:=isI) at_252 rfl rfl rfl rfl rfl rfl
theorem m34_254 : M34 254 [l0,l1,l2,l3,l4,l5,l6,l7,l8,l9,.val (.int v),l11,l12,l13,l14,l15,l16,l17] st H Q = M34 256 [l0,l1,l2,l3,l4,l5,l6,l7,l8,l9,.val (.int v),l11,l12,l13,l14,l15,l16,l17] (.int v::st) H Q:=w_x at_254 rfl
theorem m34_256 : M34 256 [l0,l1,l2,.val (.int v),l4,l5,l6,l7,l8,l9,l10,l11,l12,l13,l14,l15,l16,l17] st H Q = M34 257 [l0,l1,l2,.val (.int v),l4,l5,l6,l7,l8,l9,l10,l11,l12,l13,l14,l15,l16,l17] (.int v::st) H Q:=w_x at_256 rfl
theorem m34_257 : M34 257 ls (.int y::.int x::st) H Q = if x < y then M34 260 ls st H Q else M34 330 ls st H Q:=w_icmpN at_257 (i_ge x y) rfl
theorem m34_260 : M34 260 [l0,l1,.val (.ref r),l3,l4,l5,l6,l7,l8,l9,l10,l11,l12,l13,l14,l15,l16,l17] st H Q = M34 261 [l0,l1,.val (.ref r),l3,l4,l5,l6,l7,l8,l9,l10,l11,l12,l13,l14,l15,l16,l17] (.ref r::st) H Q:=w_x at_260 rfl
theorem m34_261 : M34 261 [l0,l1,l2,l3,l4,l5,l6,l7,l8,l9,.val (.int v),l11,l12,l13,l14,l15,l16,l17] st H Q = M34 263 [l0,l1,l2,l3,l4,l5,l6,l7,l8,l9,.val (.int v),l11,l12,l13,l14,l15,l16,l17] (.int v::st) H Q:=w_x at_261 rfl
theorem cr34_78 : vR tables_1 dn y34 78 = some (false,y19,prog_1_method_12_code,2,(some .int),1,69):=vR_of (cR_of (by decide +kernel) rc_19 dn_19 dn_34 (sig:=⟨[.int],some .int⟩) (by decide +kernel) (by decide +kernel) rfl rfl) (by decide +kernel) (by decide +kernel) (by decide +kernel)
theorem m34_263 (a0 : Int32) : M34 263 ls [.int a0,.ref (b + 1)] (put (b + 1) e s A g) Q = M19 0 [.val (.ref (b + 1)),.val (.int a0)] [] (put (b + 1) e s A g) (fun v H1 => M34 266 ls (v.toList ++ []) H1 Q):=w_virt (as:=[.int a0]) (rest:=[]) (a:=(b + 1)) at_263 cr34_78 put_o rfl rfl (Nat.le_of_ble_eq_true rfl) (by show 2≤2; omega) rfl
theorem m34_266u : M34 266 [l0,l1,l2,l3,l4,l5,l6,l7,l8,l9,l10,.unset,l12,l13,l14,l15,l16,l17] ((.int v)::st) H Q = M34 268 [l0,l1,l2,l3,l4,l5,l6,l7,l8,l9,l10,.val (.int v),l12,l13,l14,l15,l16,l17] st H Q:=w_st (i:=11) (p:=isI) at_266 rfl rfl rfl rfl rfl rfl
theorem m34_266i : M34 266 [l0,l1,l2,l3,l4,l5,l6,l7,l8,l9,l10,.val (.int z),l12,l13,l14,l15,l16,l17] ((.int v)::st) H Q = M34 268 [l0,l1,l2,l3,l4,l5,l6,l7,l8,l9,l10,.val (.int v),l12,l13,l14,l15,l16,l17] st H Q:=w_st (i:=11) (p:=isI) at_266 rfl rfl rfl rfl rfl rfl
theorem m34_266g (h : okS l11) : M34 266 [l0,l1,l2,l3,l4,l5,l6,l7,l8,l9,l10,l11,l12,l13,l14,l15,l16,l17] ((.int v)::st) H Q = M34 268 [l0,l1,l2,l3,l4,l5,l6,l7,l8,l9,l10,.val (.int v),l12,l13,l14,l15,l16,l17] st H Q:=by rcases h with rfl | ⟨z,rfl⟩ <;> first | exact m34_266u | exact m34_266i
theorem m34_268 : M34 268 [l0,l1,l2,l3,l4,l5,l6,l7,l8,l9,l10,.val (.int v),l12,l13,l14,l15,l16,l17] st H Q = M34 270 [l0,l1,l2,l3,l4,l5,l6,l7,l8,l9,l10,.val (.int v),l12,l13,l14,l15,l16,l17] (.int v::st) H Q:=w_x at_268 rfl
theorem m34_270 : M34 270 ls (.int x::st) H Q = if x < 0 then M34 308 ls st H Q else M34 273 ls st H Q:=w_if at_270 (z_lt x) rfl
theorem m34_273 : M34 273 [l0,l1,l2,l3,l4,l5,l6,l7,l8,l9,l10,.val (.int v),l12,l13,l14,l15,l16,l17] st H Q = M34 275 [l0,l1,l2,l3,l4,l5,l6,l7,l8,l9,l10,.val (.int v),l12,l13,l14,l15,l16,l17] (.int v::st) H Q:=w_x at_273 rfl
theorem m34_275 : M34 275 [.val (.ref r),l1,l2,l3,l4,l5,l6,l7,l8,l9,l10,l11,l12,l13,l14,l15,l16,l17] st H Q = M34 276 [.val (.ref r),l1,l2,l3,l4,l5,l6,l7,l8,l9,l10,l11,l12,l13,l14,l15,l16,l17] (.ref r::st) H Q:=w_x at_275 rfl
theorem m34_276 : M34 276 [l0,l1,l2,l3,l4,l5,l6,l7,l8,l9,.val (.int v),l11,l12,l13,l14,l15,l16,l17] st H Q = M34 278 [l0,l1,l2,l3,l4,l5,l6,l7,l8,l9,.val (.int v),l11,l12,l13,l14,l15,l16,l17] (.int v::st) H Q:=w_x at_276 rfl
theorem m34_278 (a0 : Nat) (a1 : Int32) (u0 : Int32) : M34 278 ls [.int a1,.ref a0,.int u0] H Q = M28 0 [.val (.ref a0),.val (.int a1)] [] H (fun v H1 => M34 281 ls (v.toList ++ [.int u0]) H1 Q):=w_stat (as:=[.int a1,.ref a0]) (rest:=[.int u0]) at_278 cr34_37 rfl (Nat.le_of_ble_eq_true rfl) (by show 2≤2; omega) rfl
theorem m34_281 : M34 281 [l0,l1,.val (.ref r),l3,l4,l5,l6,l7,l8,l9,l10,l11,l12,l13,l14,l15,l16,l17] st H Q = M34 282 [l0,l1,.val (.ref r),l3,l4,l5,l6,l7,l8,l9,l10,l11,l12,l13,l14,l15,l16,l17] (.ref r::st) H Q:=w_x at_281 rfl
theorem m34_282 : M34 282 [.val (.ref r),l1,l2,l3,l4,l5,l6,l7,l8,l9,l10,l11,l12,l13,l14,l15,l16,l17] st H Q = M34 283 [.val (.ref r),l1,l2,l3,l4,l5,l6,l7,l8,l9,l10,l11,l12,l13,l14,l15,l16,l17] (.ref r::st) H Q:=w_x at_282 rfl
theorem m34_283 : M34 283 [l0,.val (.int v),l2,l3,l4,l5,l6,l7,l8,l9,l10,l11,l12,l13,l14,l15,l16,l17] st H Q = M34 284 [l0,.val (.int v),l2,l3,l4,l5,l6,l7,l8,l9,l10,l11,l12,l13,l14,l15,l16,l17] (.int v::st) H Q:=w_x at_283 rfl
theorem m34_284 : M34 284 [l0,l1,l2,l3,l4,l5,l6,l7,l8,l9,.val (.int v),l11,l12,l13,l14,l15,l16,l17] st H Q = M34 286 [l0,l1,l2,l3,l4,l5,l6,l7,l8,l9,.val (.int v),l11,l12,l13,l14,l15,l16,l17] (.int v::st) H Q:=w_x at_284 rfl
theorem m34_286 (a0 : Nat) (a1 : Int32) (a2 : Int32) (u0 : Nat) (u1 : Int32) (u2 : Int32) : M34 286 ls [.int a2,.int a1,.ref a0,.ref u0,.int u1,.int u2] H Q = M27 0 [.val (.ref a0),.val (.int a1),.val (.int a2)] [] H (fun v H1 => M34 289 ls (v.toList ++ [.ref u0,.int u1,.int u2]) H1 Q):=w_stat (as:=[.int a2,.int a1,.ref a0]) (rest:=[.ref u0,.int u1,.int u2]) at_286 cr34_30 rfl (Nat.le_of_ble_eq_true rfl) (by show 3≤3; omega) rfl
theorem m34_289 (a0 : Int32) (u0 : Int32) (u1 : Int32) : M34 289 ls [.int a0,.ref (b + 1),.int u0,.int u1] (put (b + 1) e s A g) Q = M18 0 [.val (.ref (b + 1)),.val (.int a0)] [] (put (b + 1) e s A g) (fun v H1 => M34 292 ls (v.toList ++ [.int u0,.int u1]) H1 Q):=w_virt (as:=[.int a0]) (rest:=[.int u0,.int u1]) (a:=(b + 1)) at_289 cr34_74 put_o rfl rfl (Nat.le_of_ble_eq_true rfl) (by show 2≤2; omega) rfl
theorem m34_292 : M34 292 ls (.int y::.int x::st) H Q = M34 293 ls (.int (x + y)::st) H Q:=w_x at_292 rfl
theorem m34_293 : M34 293 [l0,l1,.val (.ref r),l3,l4,l5,l6,l7,l8,l9,l10,l11,l12,l13,l14,l15,l16,l17] st H Q = M34 294 [l0,l1,.val (.ref r),l3,l4,l5,l6,l7,l8,l9,l10,l11,l12,l13,l14,l15,l16,l17] (.ref r::st) H Q:=w_x at_293 rfl
theorem m34_294 : M34 294 [.val (.ref r),l1,l2,l3,l4,l5,l6,l7,l8,l9,l10,l11,l12,l13,l14,l15,l16,l17] st H Q = M34 295 [.val (.ref r),l1,l2,l3,l4,l5,l6,l7,l8,l9,l10,l11,l12,l13,l14,l15,l16,l17] (.ref r::st) H Q:=w_x at_294 rfl
theorem m34_295 : M34 295 [l0,.val (.int v),l2,l3,l4,l5,l6,l7,l8,l9,l10,l11,l12,l13,l14,l15,l16,l17] st H Q = M34 296 [l0,.val (.int v),l2,l3,l4,l5,l6,l7,l8,l9,l10,l11,l12,l13,l14,l15,l16,l17] (.int v::st) H Q:=w_x at_295 rfl
theorem m34_296 : M34 296 [l0,l1,l2,l3,l4,l5,l6,l7,l8,l9,.val (.int v),l11,l12,l13,l14,l15,l16,l17] st H Q = M34 298 [l0,l1,l2,l3,l4,l5,l6,l7,l8,l9,.val (.int v),l11,l12,l13,l14,l15,l16,l17] (.int v::st) H Q:=w_x at_296 rfl
theorem m34_298 (a0 : Nat) (a1 : Int32) (a2 : Int32) (u0 : Nat) (u1 : Int32) (u2 : Int32) : M34 298 ls [.int a2,.int a1,.ref a0,.ref u0,.int u1,.int u2] H Q = M26 0 [.val (.ref a0),.val (.int a1),.val (.int a2)] [] H (fun v H1 => M34 301 ls (v.toList ++ [.ref u0,.int u1,.int u2]) H1 Q):=w_stat (as:=[.int a2,.int a1,.ref a0]) (rest:=[.ref u0,.int u1,.int u2]) at_298 cr34_26 rfl (Nat.le_of_ble_eq_true rfl) (by show 3≤3; omega) rfl
theorem m34_301 (a0 : Int32) (u0 : Int32) (u1 : Int32) : M34 301 ls [.int a0,.ref (b + 1),.int u0,.int u1] (put (b + 1) e s A g) Q = M18 0 [.val (.ref (b + 1)),.val (.int a0)] [] (put (b + 1) e s A g) (fun v H1 => M34 304 ls (v.toList ++ [.int u0,.int u1]) H1 Q):=w_virt (as:=[.int a0]) (rest:=[.int u0,.int u1]) (a:=(b + 1)) at_301 cr34_74 put_o rfl rfl (Nat.le_of_ble_eq_true rfl) (by show 2≤2; omega) rfl
theorem m34_304 : M34 304 ls (.int y::.int x::st) H Q = M34 305 ls (.int (x - y)::st) H Q:=w_x at_304 rfl
theorem m34_305 : M34 305 ls (.int y::.int x::st) H Q = if x = y then M34 310 ls st H Q else M34 308 ls st H Q:=w_icmp at_305 (i_eq x y) rfl
theorem m34_308 : M34 308 ls st H Q = M34 309 ls (.int 0::st) H Q:=w_con at_308 rfl (by decide)
theorem m34_309 : M34 309 ls (.int z::st) H Q = Q (some (.int (nar .boolean z))) H:=w_iretN at_309 rfl (by simp)
theorem m34_310 : M34 310 [l0,l1,l2,l3,l4,l5,l6,l7,l8,l9,l10,.val (.int v),l12,l13,l14,l15,l16,l17] st H Q = M34 312 [l0,l1,l2,l3,l4,l5,l6,l7,l8,l9,l10,.val (.int v),l12,l13,l14,l15,l16,l17] (.int v::st) H Q:=w_x at_310 rfl
theorem m34_312 : M34 312 ls (.int x::st) H Q = if x = 0 then M34 315 ls st H Q else M34 324 ls st H Q:=w_ifN at_312 (z_ne x) rfl
theorem m34_315 : M34 315 [l0,l1,l2,l3,l4,l5,l6,l7,.val (.long J1),l9,l10,l11,l12,l13,l14,l15,l16,l17] st H Q = M34 317 [l0,l1,l2,l3,l4,l5,l6,l7,.val (.long J1),l9,l10,l11,l12,l13,l14,l15,l16,l17] (.long J1::st) H Q:=w_x at_315 rfl
theorem m34_317 : M34 317 ls st H Q = M34 318 ls (.long 1::st) H Q:=w_con at_317 rfl (by decide)
theorem m34_318 : M34 318 [l0,l1,l2,l3,l4,l5,l6,l7,l8,l9,.val (.int v),l11,l12,l13,l14,l15,l16,l17] st H Q = M34 320 [l0,l1,l2,l3,l4,l5,l6,l7,l8,l9,.val (.int v),l11,l12,l13,l14,l15,l16,l17] (.int v::st) H Q:=w_x at_318 rfl
theorem m34_320 : M34 320 ls (.int y::.long J1::st) H Q = M34 321 ls (.long (J1 <<< (y.toInt64 &&& 63))::st) H Q:=w_x at_320 rfl
theorem m34_321 : M34 321 ls (.long J2::.long J1::st) H Q = M34 322 ls (.long (J1 ||| J2)::st) H Q:=w_x at_321 rfl
theorem m34_322 : M34 322 [l0,l1,l2,l3,l4,l5,l6,l7,.val (.long J2),.second,l10,l11,l12,l13,l14,l15,l16,l17] (.long J1::st) H Q = M34 324 [l0,l1,l2,l3,l4,l5,l6,l7,.val (.long J1),.second,l10,l11,l12,l13,l14,l15,l16,l17] st H Q:=w_x at_322 rfl
theorem m34_324 : M34 324 [l0,l1,l2,l3,l4,l5,l6,l7,l8,l9,.val (.int v),l11,l12,l13,l14,l15,l16,l17] st H Q = M34 327 [l0,l1,l2,l3,l4,l5,l6,l7,l8,l9,.val (.int (v + 1)),l11,l12,l13,l14,l15,l16,l17] st H Q:=w_iinc at_324 rfl (by decide) rfl
theorem m34_327 : M34 327 ls st H Q = M34 254 ls st H Q:=w_x at_327 rfl
theorem m34_330 : M34 330 [.val (.ref r),l1,l2,l3,l4,l5,l6,l7,l8,l9,l10,l11,l12,l13,l14,l15,l16,l17] st H Q = M34 331 [.val (.ref r),l1,l2,l3,l4,l5,l6,l7,l8,l9,l10,l11,l12,l13,l14,l15,l16,l17] (.ref r::st) H Q:=w_x at_330 rfl
theorem m34_331 : M34 331 [l0,.val (.int v),l2,l3,l4,l5,l6,l7,l8,l9,l10,l11,l12,l13,l14,l15,l16,l17] st H Q = M34 332 [l0,.val (.int v),l2,l3,l4,l5,l6,l7,l8,l9,l10,l11,l12,l13,l14,l15,l16,l17] (.int v::st) H Q:=w_x at_331 rfl
theorem m34_332 : M34 332 [l0,l1,l2,.val (.int v),l4,l5,l6,l7,l8,l9,l10,l11,l12,l13,l14,l15,l16,l17] st H Q = M34 333 [l0,l1,l2,.val (.int v),l4,l5,l6,l7,l8,l9,l10,l11,l12,l13,l14,l15,l16,l17] (.int v::st) H Q:=w_x at_332 rfl
theorem m34_333 : M34 333 [l0,l1,l2,l3,l4,l5,l6,l7,.val (.long J1),l9,l10,l11,l12,l13,l14,l15,l16,l17] st H Q = M34 335 [l0,l1,l2,l3,l4,l5,l6,l7,.val (.long J1),l9,l10,l11,l12,l13,l14,l15,l16,l17] (.long J1::st) H Q:=w_x at_333 rfl
theorem m34_335 (a0 : Nat) (a1 : Int32) (a2 : Int32) (a3 : Int64) : M34 335 ls [.long a3,.int a2,.int a1,.ref a0] H Q = M29 0 [.val (.ref a0),.val (.int a1),.val (.int a2),.val (.long a3),.second,.unset,.unset,.unset,.unset,.unset,.unset,.unset,.unset,.unset,.unset] [] H (fun v H1 => M34 338 ls (v.toList ++ []) H1 Q):=w_stat (as:=[.long a3,.int a2,.int a1,.ref a0]) (rest:=[]) at_335 cr34_58 rfl (Nat.le_of_ble_eq_true rfl) (by show 5≤15; omega) rfl
theorem m34_338 : M34 338 [l0,l1,l2,l3,l4,l5,.val (.int v),l7,l8,l9,l10,l11,l12,l13,l14,l15,l16,l17] st H Q = M34 340 [l0,l1,l2,l3,l4,l5,.val (.int v),l7,l8,l9,l10,l11,l12,l13,l14,l15,l16,l17] (.int v::st) H Q:=w_x at_338 rfl
theorem m34_340 : M34 340 ls (.int y::.int x::st) H Q = if x = y then M34 345 ls st H Q else M34 343 ls st H Q:=w_icmp at_340 (i_eq x y) rfl
theorem m34_343 : M34 343 ls st H Q = M34 344 ls (.int 0::st) H Q:=w_con at_343 rfl (by decide)
theorem m34_344 : M34 344 ls (.int z::st) H Q = Q (some (.int (nar .boolean z))) H:=w_iretN at_344 rfl (by simp)
theorem m34_345 : M34 345 ls st H Q = M34 346 ls (.int 0::st) H Q:=w_con at_345 rfl (by decide)
theorem m34_346i : M34 346 [l0,l1,l2,l3,l4,l5,l6,l7,l8,l9,.val (.int z),l11,l12,l13,l14,l15,l16,l17] ((.int v)::st) H Q = M34 348 [l0,l1,l2,l3,l4,l5,l6,l7,l8,l9,.val (.int v),l11,l12,l13,l14,l15,l16,l17] st H Q:=w_st (i:=10) (p:=isI) at_346 rfl rfl rfl rfl rfl rfl
theorem m34_348 : M34 348 [l0,l1,l2,l3,l4,l5,l6,l7,l8,l9,.val (.int v),l11,l12,l13,l14,l15,l16,l17] st H Q = M34 350 [l0,l1,l2,l3,l4,l5,l6,l7,l8,l9,.val (.int v),l11,l12,l13,l14,l15,l16,l17] (.int v::st) H Q:=w_x at_348 rfl
theorem m34_350 : M34 350 [l0,.val (.int v),l2,l3,l4,l5,l6,l7,l8,l9,l10,l11,l12,l13,l14,l15,l16,l17] st H Q = M34 351 [l0,.val (.int v),l2,l3,l4,l5,l6,l7,l8,l9,l10,l11,l12,l13,l14,l15,l16,l17] (.int v::st) H Q:=w_x at_350 rfl
theorem m34_351 : M34 351 ls (.int y::.int x::st) H Q = if x < y then M34 354 ls st H Q else M34 476 ls st H Q:=w_icmpN at_351 (i_ge x y) rfl
theorem m34_354 : M34 354 [.val (.ref r),l1,l2,l3,l4,l5,l6,l7,l8,l9,l10,l11,l12,l13,l14,l15,l16,l17] st H Q = M34 355 [.val (.ref r),l1,l2,l3,l4,l5,l6,l7,l8,l9,l10,l11,l12,l13,l14,l15,l16,l17] (.ref r::st) H Q:=w_x at_354 rfl
theorem m34_355 : M34 355 [l0,.val (.int v),l2,l3,l4,l5,l6,l7,l8,l9,l10,l11,l12,l13,l14,l15,l16,l17] st H Q = M34 356 [l0,.val (.int v),l2,l3,l4,l5,l6,l7,l8,l9,l10,l11,l12,l13,l14,l15,l16,l17] (.int v::st) H Q:=w_x at_355 rfl
theorem m34_356 : M34 356 [l0,l1,l2,.val (.int v),l4,l5,l6,l7,l8,l9,l10,l11,l12,l13,l14,l15,l16,l17] st H Q = M34 357 [l0,l1,l2,.val (.int v),l4,l5,l6,l7,l8,l9,l10,l11,l12,l13,l14,l15,l16,l17] (.int v::st) H Q:=w_x at_356 rfl
theorem m34_357 : M34 357 [l0,l1,l2,l3,l4,l5,l6,l7,l8,l9,.val (.int v),l11,l12,l13,l14,l15,l16,l17] st H Q = M34 359 [l0,l1,l2,l3,l4,l5,l6,l7,l8,l9,.val (.int v),l11,l12,l13,l14,l15,l16,l17] (.int v::st) H Q:=w_x at_357 rfl
theorem cr34_40 : sR tables_1 dn y34 40 = some (y32,method_11_code,12,(some .long),4,27):=sR_of (cR_of (by decide +kernel) rc_32 dn_32 dn_34 (sig:=⟨[.array .int,.int,.int,.int],some .long⟩) (by decide +kernel) (by decide +kernel) rfl rfl) (by decide +kernel)
theorem m34_359 (a0 : Nat) (a1 : Int32) (a2 : Int32) (a3 : Int32) : M34 359 ls [.int a3,.int a2,.int a1,.ref a0] H Q = M32 0 [.val (.ref a0),.val (.int a1),.val (.int a2),.val (.int a3),.unset,.unset,.unset,.unset,.unset,.unset,.unset,.unset] [] H (fun v H1 => M34 362 ls (v.toList ++ []) H1 Q):=w_stat (as:=[.int a3,.int a2,.int a1,.ref a0]) (rest:=[]) at_359 cr34_40 rfl (Nat.le_of_ble_eq_true rfl) (by show 4≤12; omega) rfl
theorem m34_362 : M34 362 [l0,l1,l2,l3,l4,l5,l6,l7,l8,l9,l10,.unset,.unset,l13,l14,l15,l16,l17] (.long J1::st) H Q = M34 364 [l0,l1,l2,l3,l4,l5,l6,l7,l8,l9,l10,.val (.long J1),.second,l13,l14,l15,l16,l17] st H Q:=w_x at_362 rfl
theorem m34_364 : M34 364 ls st H Q = M34 365 ls (.int 0::st) H Q:=w_con at_364 rfl (by decide)
theorem m34_365u : M34 365 [l0,l1,l2,l3,l4,l5,l6,l7,l8,l9,l10,l11,l12,.unset,l14,l15,l16,l17] ((.int v)::st) H Q = M34 367 [l0,l1,l2,l3,l4,l5,l6,l7,l8,l9,l10,l11,l12,.val (.int v),l14,l15,l16,l17] st H Q:=w_st (i:=13) (p:=isI) at_365 rfl rfl rfl rfl rfl rfl
theorem m34_365i : M34 365 [l0,l1,l2,l3,l4,l5,l6,l7,l8,l9,l10,l11,l12,.val (.int z),l14,l15,l16,l17] ((.int v)::st) H Q = M34 367 [l0,l1,l2,l3,l4,l5,l6,l7,l8,l9,l10,l11,l12,.val (.int v),l14,l15,l16,l17] st H Q:=w_st (i:=13) (p:=isI) at_365 rfl rfl rfl rfl rfl rfl
theorem m34_365g (h : okS l13) : M34 365 [l0,l1,l2,l3,l4,l5,l6,l7,l8,l9,l10,l11,l12,l13,l14,l15,l16,l17] ((.int v)::st) H Q = M34 367 [l0,l1,l2,l3,l4,l5,l6,l7,l8,l9,l10,l11,l12,.val (.int v),l14,l15,l16,l17] st H Q:=by rcases h with rfl | ⟨z,rfl⟩ <;> first | exact m34_365u | exact m34_365i
theorem m34_367 : M34 367 [l0,l1,l2,l3,l4,l5,l6,l7,l8,l9,l10,l11,l12,.val (.int v),l14,l15,l16,l17] st H Q = M34 369 [l0,l1,l2,l3,l4,l5,l6,l7,l8,l9,l10,l11,l12,.val (.int v),l14,l15,l16,l17] (.int v::st) H Q:=w_x at_367 rfl
theorem m34_369 : M34 369 [l0,.val (.int v),l2,l3,l4,l5,l6,l7,l8,l9,l10,l11,l12,l13,l14,l15,l16,l17] st H Q = M34 370 [l0,.val (.int v),l2,l3,l4,l5,l6,l7,l8,l9,l10,l11,l12,l13,l14,l15,l16,l17] (.int v::st) H Q:=w_x at_369 rfl
theorem m34_370 : M34 370 ls (.int y::.int x::st) H Q = if x < y then M34 373 ls st H Q else M34 470 ls st H Q:=w_icmpN at_370 (i_ge x y) rfl
theorem m34_373 : M34 373 [l0,l1,l2,l3,l4,l5,l6,l7,l8,l9,l10,.val (.long J1),l12,l13,l14,l15,l16,l17] st H Q = M34 375 [l0,l1,l2,l3,l4,l5,l6,l7,l8,l9,l10,.val (.long J1),l12,l13,l14,l15,l16,l17] (.long J1::st) H Q:=w_x at_373 rfl
theorem m34_375 : M34 375 [l0,l1,l2,l3,l4,l5,l6,l7,l8,l9,l10,l11,l12,.val (.int v),l14,l15,l16,l17] st H Q = M34 377 [l0,l1,l2,l3,l4,l5,l6,l7,l8,l9,l10,l11,l12,.val (.int v),l14,l15,l16,l17] (.int v::st) H Q:=w_x at_375 rfl
theorem m34_377 : M34 377 ls st H Q = M34 379 ls (.int 12::st) H Q:=w_con at_377 rfl (by decide)
theorem cr34_33 : sR tables_1 dn y34 33 = some (y31,method_8_code,4,(some .int),3,67):=sR_of (cR_of (by decide +kernel) rc_31 dn_31 dn_34 (sig:=⟨[.long,.int,.int],some .int⟩) (by decide +kernel) (by decide +kernel) rfl rfl) (by decide +kernel)
theorem m34_379 (a0 : Int64) (a1 : Int32) (a2 : Int32) : M34 379 ls [.int a2,.int a1,.long a0] H Q = M31 0 [.val (.long a0),.second,.val (.int a1),.val (.int a2)] [] H (fun v H1 => M34 382 ls (v.toList ++ []) H1 Q):=w_stat (as:=[.int a2,.int a1,.long a0]) (rest:=[]) at_379 cr34_33 rfl (Nat.le_of_ble_eq_true rfl) (by show 4≤4; omega) rfl
theorem m34_382u : M34 382 [l0,l1,l2,l3,l4,l5,l6,l7,l8,l9,l10,l11,l12,l13,.unset,l15,l16,l17] ((.int v)::st) H Q = M34 384 [l0,l1,l2,l3,l4,l5,l6,l7,l8,l9,l10,l11,l12,l13,.val (.int v),l15,l16,l17] st H Q:=w_st (i:=14) (p:=isI) at_382 rfl rfl rfl rfl rfl rfl
theorem m34_382i : M34 382 [l0,l1,l2,l3,l4,l5,l6,l7,l8,l9,l10,l11,l12,l13,.val (.int z),l15,l16,l17] ((.int v)::st) H Q = M34 384 [l0,l1,l2,l3,l4,l5,l6,l7,l8,l9,l10,l11,l12,l13,.val (.int v),l15,l16,l17] st H Q:=w_st (i:=14) (p:=isI) at_382 rfl rfl rfl rfl rfl rfl
theorem m34_382g (h : okS l14) : M34 382 [l0,l1,l2,l3,l4,l5,l6,l7,l8,l9,l10,l11,l12,l13,l14,l15,l16,l17] ((.int v)::st) H Q = M34 384 [l0,l1,l2,l3,l4,l5,l6,l7,l8,l9,l10,l11,l12,l13,.val (.int v),l15,l16,l17] st H Q:=by rcases h with rfl | ⟨z,rfl⟩ <;> first | exact m34_382u | exact m34_382i
theorem m34_384 : M34 384 [l0,l1,.val (.ref r),l3,l4,l5,l6,l7,l8,l9,l10,l11,l12,l13,l14,l15,l16,l17] st H Q = M34 385 [l0,l1,.val (.ref r),l3,l4,l5,l6,l7,l8,l9,l10,l11,l12,l13,l14,l15,l16,l17] (.ref r::st) H Q:=w_x at_384 rfl
theorem m34_385 : M34 385 [l0,l1,l2,l3,l4,l5,l6,l7,l8,l9,.val (.int v),l11,l12,l13,l14,l15,l16,l17] st H Q = M34 387 [l0,l1,l2,l3,l4,l5,l6,l7,l8,l9,.val (.int v),l11,l12,l13,l14,l15,l16,l17] (.int v::st) H Q:=w_x at_385 rfl
theorem m34_387 : M34 387 [l0,l1,l2,l3,l4,l5,l6,l7,l8,l9,l10,l11,l12,.val (.int v),l14,l15,l16,l17] st H Q = M34 389 [l0,l1,l2,l3,l4,l5,l6,l7,l8,l9,l10,l11,l12,.val (.int v),l14,l15,l16,l17] (.int v::st) H Q:=w_x at_387 rfl
theorem cr34_81 : vR tables_1 dn y34 81 = some (false,y20,prog_1_method_9_code,4,(some .int),2,53):=vR_of (cR_of (by decide +kernel) rc_20 dn_20 dn_34 (sig:=⟨[.int,.int],some .int⟩) (by decide +kernel) (by decide +kernel) rfl rfl) (by decide +kernel) (by decide +kernel) (by decide +kernel)
theorem m34_389 (a0 : Int32) (a1 : Int32) : M34 389 ls [.int a1,.int a0,.ref (b + 1)] (put (b + 1) e s A g) Q = M20 0 [.val (.ref (b + 1)),.val (.int a0),.val (.int a1),.unset] [] (put (b + 1) e s A g) (fun v H1 => M34 392 ls (v.toList ++ []) H1 Q):=w_virt (as:=[.int a1,.int a0]) (rest:=[]) (a:=(b + 1)) at_389 cr34_81 put_o rfl rfl (Nat.le_of_ble_eq_true rfl) (by show 3≤4; omega) rfl
theorem m34_392u : M34 392 [l0,l1,l2,l3,l4,l5,l6,l7,l8,l9,l10,l11,l12,l13,l14,.unset,l16,l17] ((.int v)::st) H Q = M34 394 [l0,l1,l2,l3,l4,l5,l6,l7,l8,l9,l10,l11,l12,l13,l14,.val (.int v),l16,l17] st H Q:=w_st (i:=15) (p:=isI) at_392 rfl rfl rfl rfl rfl rfl
theorem m34_392i : M34 392 [l0,l1,l2,l3,l4,l5,l6,l7,l8,l9,l10,l11,l12,l13,l14,.val (.int z),l16,l17] ((.int v)::st) H Q = M34 394 [l0,l1,l2,l3,l4,l5,l6,l7,l8,l9,l10,l11,l12,l13,l14,.val (.int v),l16,l17] st H Q:=w_st (i:=15) (p:=isI) at_392 rfl rfl rfl rfl rfl rfl
theorem m34_392g (h : okS l15) : M34 392 [l0,l1,l2,l3,l4,l5,l6,l7,l8,l9,l10,l11,l12,l13,l14,l15,l16,l17] ((.int v)::st) H Q = M34 394 [l0,l1,l2,l3,l4,l5,l6,l7,l8,l9,l10,l11,l12,l13,l14,.val (.int v),l16,l17] st H Q:=by rcases h with rfl | ⟨z,rfl⟩ <;> first | exact m34_392u | exact m34_392i
theorem m34_394 : M34 394 [l0,l1,.val (.ref r),l3,l4,l5,l6,l7,l8,l9,l10,l11,l12,l13,l14,l15,l16,l17] st H Q = M34 395 [l0,l1,.val (.ref r),l3,l4,l5,l6,l7,l8,l9,l10,l11,l12,l13,l14,l15,l16,l17] (.ref r::st) H Q:=w_x at_394 rfl
theorem m34_395 : M34 395 [l0,l1,l2,l3,l4,l5,l6,l7,l8,l9,.val (.int v),l11,l12,l13,l14,l15,l16,l17] st H Q = M34 397 [l0,l1,l2,l3,l4,l5,l6,l7,l8,l9,.val (.int v),l11,l12,l13,l14,l15,l16,l17] (.int v::st) H Q:=w_x at_395 rfl
theorem m34_397 : M34 397 [l0,l1,l2,l3,l4,l5,l6,l7,l8,l9,l10,l11,l12,.val (.int v),l14,l15,l16,l17] st H Q = M34 399 [l0,l1,l2,l3,l4,l5,l6,l7,l8,l9,l10,l11,l12,.val (.int v),l14,l15,l16,l17] (.int v::st) H Q:=w_x at_397 rfl
theorem cr34_84 : vR tables_1 dn y34 84 = some (false,y22,prog_1_method_10_code,4,(some .int),2,53):=vR_of (cR_of (by decide +kernel) rc_22 dn_22 dn_34 (sig:=⟨[.int,.int],some .int⟩) (by decide +kernel) (by decide +kernel) rfl rfl) (by decide +kernel) (by decide +kernel) (by decide +kernel)
theorem m34_399 (a0 : Int32) (a1 : Int32) : M34 399 ls [.int a1,.int a0,.ref (b + 1)] (put (b + 1) e s A g) Q = M22 0 [.val (.ref (b + 1)),.val (.int a0),.val (.int a1),.unset] [] (put (b + 1) e s A g) (fun v H1 => M34 402 ls (v.toList ++ []) H1 Q):=w_virt (as:=[.int a1,.int a0]) (rest:=[]) (a:=(b + 1)) at_399 cr34_84 put_o rfl rfl (Nat.le_of_ble_eq_true rfl) (by show 3≤4; omega) rfl
theorem m34_402u : M34 402 [l0,l1,l2,l3,l4,l5,l6,l7,l8,l9,l10,l11,l12,l13,l14,l15,.unset,l17] ((.int v)::st) H Q = M34 404 [l0,l1,l2,l3,l4,l5,l6,l7,l8,l9,l10,l11,l12,l13,l14,l15,.val (.int v),l17] st H Q:=w_st (i:=16) (p:=isI) at_402 rfl rfl rfl rfl rfl rfl
theorem m34_402i : M34 402 [l0,l1,l2,l3,l4,l5,l6,l7,l8,l9,l10,l11,l12,l13,l14,l15,.val (.int z),l17] ((.int v)::st) H Q = M34 404 [l0,l1,l2,l3,l4,l5,l6,l7,l8,l9,l10,l11,l12,l13,l14,l15,.val (.int v),l17] st H Q:=w_st (i:=16) (p:=isI) at_402 rfl rfl rfl rfl rfl rfl
theorem m34_402g (h : okS l16) : M34 402 [l0,l1,l2,l3,l4,l5,l6,l7,l8,l9,l10,l11,l12,l13,l14,l15,l16,l17] ((.int v)::st) H Q = M34 404 [l0,l1,l2,l3,l4,l5,l6,l7,l8,l9,l10,l11,l12,l13,l14,l15,.val (.int v),l17] st H Q:=by rcases h with rfl | ⟨z,rfl⟩ <;> first | exact m34_402u | exact m34_402i
theorem m34_404 : M34 404 [l0,l1,l2,l3,l4,l5,l6,l7,l8,l9,l10,l11,l12,l13,.val (.int v),l15,l16,l17] st H Q = M34 406 [l0,l1,l2,l3,l4,l5,l6,l7,l8,l9,l10,l11,l12,l13,.val (.int v),l15,l16,l17] (.int v::st) H Q:=w_x at_404 rfl
theorem m34_406 : M34 406 ls st H Q = M34 409 ls (.int 4095::st) H Q:=w_con at_406 rfl (by decide)
theorem m34_409 : M34 409 ls (.int y::.int x::st) H Q = if x = y then M34 412 ls st H Q else M34 426 ls st H Q:=w_icmpN at_409 (i_ne x y) rfl
theorem m34_412 : M34 412 [l0,l1,l2,l3,l4,l5,l6,l7,l8,l9,l10,l11,l12,l13,l14,.val (.int v),l16,l17] st H Q = M34 414 [l0,l1,l2,l3,l4,l5,l6,l7,l8,l9,l10,l11,l12,l13,l14,.val (.int v),l16,l17] (.int v::st) H Q:=w_x at_412 rfl
theorem m34_414 : M34 414 ls st H Q = M34 415 ls (.int (-1)::st) H Q:=w_con at_414 rfl (by decide)
theorem m34_415 : M34 415 ls (.int y::.int x::st) H Q = if x = y then M34 418 ls st H Q else M34 424 ls st H Q:=w_icmpN at_415 (i_ne x y) rfl
theorem m34_418 : M34 418 [l0,l1,l2,l3,l4,l5,l6,l7,l8,l9,l10,l11,l12,l13,l14,l15,.val (.int v),l17] st H Q = M34 420 [l0,l1,l2,l3,l4,l5,l6,l7,l8,l9,l10,l11,l12,l13,l14,l15,.val (.int v),l17] (.int v::st) H Q:=w_x at_418 rfl
theorem m34_420 : M34 420 ls st H Q = M34 421 ls (.int (-1)::st) H Q:=w_con at_420 rfl (by decide)
theorem m34_421 : M34 421 ls (.int y::.int x::st) H Q = if x = y then M34 464 ls st H Q else M34 424 ls st H Q:=w_icmp at_421 (i_eq x y) rfl
theorem m34_424 : M34 424 ls st H Q = M34 425 ls (.int 0::st) H Q:=w_con at_424 rfl (by decide)
theorem m34_425 : M34 425 ls (.int z::st) H Q = Q (some (.int (nar .boolean z))) H:=w_iretN at_425 rfl (by simp)
theorem m34_426 : M34 426 [l0,l1,l2,l3,l4,l5,l6,l7,l8,l9,l10,l11,l12,l13,.val (.int v),l15,l16,l17] st H Q = M34 428 [l0,l1,l2,l3,l4,l5,l6,l7,l8,l9,l10,l11,l12,l13,.val (.int v),l15,l16,l17] (.int v::st) H Q:=w_x at_426 rfl
theorem m34_428 : M34 428 ls st H Q = M34 430 ls (.int 127::st) H Q:=w_con at_428 rfl (by decide)
theorem m34_430 : M34 430 ls (.int y::.int x::st) H Q = M34 431 ls (.int (x + y)::st) H Q:=w_x at_430 rfl
theorem m34_431 : M34 431 ls st H Q = M34 434 ls (.int 128::st) H Q:=w_con at_431 rfl (by decide)
theorem m34_434 : M34 434 ls (.int y::.int x::st) H Q = (y ≠ 0∧M34 435 ls (.int (x / y)::st) H Q):=w_div (f:=fun x y => x / y) at_434 (fun _ => rfl) rfl rfl
theorem m34_435 : M34 435 ls st H Q = M34 436 ls (.int 1::st) H Q:=w_con at_435 rfl (by decide)
theorem m34_436 : M34 436 ls (.int y::.int x::st) H Q = M34 437 ls (.int (x - y)::st) H Q:=w_x at_436 rfl
theorem m34_437u : M34 437 [l0,l1,l2,l3,l4,l5,l6,l7,l8,l9,l10,l11,l12,l13,l14,l15,l16,.unset] ((.int v)::st) H Q = M34 439 [l0,l1,l2,l3,l4,l5,l6,l7,l8,l9,l10,l11,l12,l13,l14,l15,l16,.val (.int v)] st H Q:=w_st (i:=17) (p:=isI) at_437 rfl rfl rfl rfl rfl rfl
theorem m34_437i : M34 437 [l0,l1,l2,l3,l4,l5,l6,l7,l8,l9,l10,l11,l12,l13,l14,l15,l16,.val (.int z)] ((.int v)::st) H Q = M34 439 [l0,l1,l2,l3,l4,l5,l6,l7,l8,l9,l10,l11,l12,l13,l14,l15,l16,.val (.int v)] st H Q:=w_st (i:=17) (p:=isI) at_437 rfl rfl rfl rfl rfl rfl
theorem m34_437g (h : okS l17) : M34 437 [l0,l1,l2,l3,l4,l5,l6,l7,l8,l9,l10,l11,l12,l13,l14,l15,l16,l17] ((.int v)::st) H Q = M34 439 [l0,l1,l2,l3,l4,l5,l6,l7,l8,l9,l10,l11,l12,l13,l14,l15,l16,.val (.int v)] st H Q:=by rcases h with rfl | ⟨z,rfl⟩ <;> first | exact m34_437u | exact m34_437i
theorem m34_439 : M34 439 [l0,l1,l2,l3,l4,l5,l6,l7,l8,l9,l10,l11,l12,l13,l14,.val (.int v),l16,l17] st H Q = M34 441 [l0,l1,l2,l3,l4,l5,l6,l7,l8,l9,l10,l11,l12,l13,l14,.val (.int v),l16,l17] (.int v::st) H Q:=w_x at_439 rfl
theorem m34_441 : M34 441 [l0,l1,l2,l3,l4,l5,l6,l7,l8,l9,l10,l11,l12,l13,l14,l15,l16,.val (.int v)] st H Q = M34 443 [l0,l1,l2,l3,l4,l5,l6,l7,l8,l9,l10,l11,l12,l13,l14,l15,l16,.val (.int v)] (.int v::st) H Q:=w_x at_441 rfl
theorem m34_443 : M34 443 ls (.int y::.int x::st) H Q = if x = y then M34 446 ls st H Q else M34 462 ls st H Q:=w_icmpN at_443 (i_ne x y) rfl
theorem m34_446 : M34 446 [l0,l1,l2,l3,l4,l5,l6,l7,l8,l9,l10,l11,l12,l13,l14,l15,.val (.int v),l17] st H Q = M34 448 [l0,l1,l2,l3,l4,l5,l6,l7,l8,l9,l10,l11,l12,l13,l14,l15,.val (.int v),l17] (.int v::st) H Q:=w_x at_446 rfl
theorem m34_448 : M34 448 ls st H Q = M34 451 ls (.int 128::st) H Q:=w_con at_448 rfl (by decide)
theorem m34_451 : M34 451 [l0,l1,l2,l3,l4,l5,l6,l7,l8,l9,l10,l11,l12,l13,l14,l15,l16,.val (.int v)] st H Q = M34 453 [l0,l1,l2,l3,l4,l5,l6,l7,l8,l9,l10,l11,l12,l13,l14,l15,l16,.val (.int v)] (.int v::st) H Q:=w_x at_451 rfl
theorem m34_453 : M34 453 ls st H Q = M34 454 ls (.int 1::st) H Q:=w_con at_453 rfl (by decide)
theorem m34_454 : M34 454 ls (.int y::.int x::st) H Q = M34 455 ls (.int (x + y)::st) H Q:=w_x at_454 rfl
theorem m34_455 : M34 455 ls (.int y::.int x::st) H Q = M34 456 ls (.int (x * y)::st) H Q:=w_x at_455 rfl
theorem m34_456 : M34 456 [l0,l1,l2,l3,l4,l5,l6,l7,l8,l9,l10,l11,l12,l13,.val (.int v),l15,l16,l17] st H Q = M34 458 [l0,l1,l2,l3,l4,l5,l6,l7,l8,l9,l10,l11,l12,l13,.val (.int v),l15,l16,l17] (.int v::st) H Q:=w_x at_456 rfl
theorem m34_458 : M34 458 ls (.int y::.int x::st) H Q = M34 459 ls (.int (x - y)::st) H Q:=w_x at_458 rfl
theorem m34_459 : M34 459 ls (.int y::.int x::st) H Q = if x = y then M34 464 ls st H Q else M34 462 ls st H Q:=w_icmp at_459 (i_eq x y) rfl
theorem m34_462 : M34 462 ls st H Q = M34 463 ls (.int 0::st) H Q:=w_con at_462 rfl (by decide)
theorem m34_463 : M34 463 ls (.int z::st) H Q = Q (some (.int (nar .boolean z))) H:=w_iretN at_463 rfl (by simp)
theorem m34_464 : M34 464 [l0,l1,l2,l3,l4,l5,l6,l7,l8,l9,l10,l11,l12,.val (.int v),l14,l15,l16,l17] st H Q = M34 467 [l0,l1,l2,l3,l4,l5,l6,l7,l8,l9,l10,l11,l12,.val (.int (v + 1)),l14,l15,l16,l17] st H Q:=w_iinc at_464 rfl (by decide) rfl
theorem m34_467 : M34 467 ls st H Q = M34 367 ls st H Q:=w_x at_467 rfl
theorem m34_470 : M34 470 [l0,l1,l2,l3,l4,l5,l6,l7,l8,l9,.val (.int v),l11,l12,l13,l14,l15,l16,l17] st H Q = M34 473 [l0,l1,l2,l3,l4,l5,l6,l7,l8,l9,.val (.int (v + 1)),l11,l12,l13,l14,l15,l16,l17] st H Q:=w_iinc at_470 rfl (by decide) rfl
theorem m34_473 : M34 473 ls st H Q = M34 348 ls st H Q:=w_x at_473 rfl
theorem m34_476 : M34 476 [.val (.ref r),l1,l2,l3,l4,l5,l6,l7,l8,l9,l10,l11,l12,l13,l14,l15,l16,l17] st H Q = M34 477 [.val (.ref r),l1,l2,l3,l4,l5,l6,l7,l8,l9,l10,l11,l12,l13,l14,l15,l16,l17] (.ref r::st) H Q:=w_x at_476 rfl
theorem m34_477 : M34 477 [l0,.val (.int v),l2,l3,l4,l5,l6,l7,l8,l9,l10,l11,l12,l13,l14,l15,l16,l17] st H Q = M34 478 [l0,.val (.int v),l2,l3,l4,l5,l6,l7,l8,l9,l10,l11,l12,l13,l14,l15,l16,l17] (.int v::st) H Q:=w_x at_477 rfl
theorem m34_478 : M34 478 [l0,l1,l2,.val (.int v),l4,l5,l6,l7,l8,l9,l10,l11,l12,l13,l14,l15,l16,l17] st H Q = M34 479 [l0,l1,l2,.val (.int v),l4,l5,l6,l7,l8,l9,l10,l11,l12,l13,l14,l15,l16,l17] (.int v::st) H Q:=w_x at_478 rfl
theorem m34_479 : M34 479 [l0,l1,l2,l3,l4,l5,.val (.int v),l7,l8,l9,l10,l11,l12,l13,l14,l15,l16,l17] st H Q = M34 481 [l0,l1,l2,l3,l4,l5,.val (.int v),l7,l8,l9,l10,l11,l12,l13,l14,l15,l16,l17] (.int v::st) H Q:=w_x at_479 rfl
theorem m34_481 : M34 481 ls st H Q = M34 482 ls (.int 1::st) H Q:=w_con at_481 rfl (by decide)
theorem m34_482 : M34 482 ls (.int y::.int x::st) H Q = M34 483 ls (.int (x - y)::st) H Q:=w_x at_482 rfl
theorem cr34_87 : sR tables_1 dn y34 87 = some (y33,method_12_code,16,(some .boolean),4,0):=sR_of (cR_of (by decide +kernel) rc_33 dn_33 dn_34 (sig:=⟨[.array .int,.int,.int,.int],some .boolean⟩) (by decide +kernel) (by decide +kernel) rfl rfl) (by decide +kernel)
theorem m34_483 (a0 : Nat) (a1 : Int32) (a2 : Int32) (a3 : Int32) : M34 483 ls [.int a3,.int a2,.int a1,.ref a0] H Q = M33 0 [.val (.ref a0),.val (.int a1),.val (.int a2),.val (.int a3),.unset,.unset,.unset,.unset,.unset,.unset,.unset,.unset,.unset,.unset,.unset,.unset] [] H (fun v H1 => M34 486 ls (v.toList ++ []) H1 Q):=w_stat (as:=[.int a3,.int a2,.int a1,.ref a0]) (rest:=[]) at_483 cr34_87 rfl (Nat.le_of_ble_eq_true rfl) (by show 4≤16; omega) rfl
theorem m34_486 : M34 486 ls (.int x::st) H Q = if x = 0 then M34 489 ls st H Q else M34 493 ls st H Q:=w_ifN at_486 (z_ne x) rfl
theorem m34_489 : M34 489 ls st H Q = M34 490 ls (.int 1::st) H Q:=w_con at_489 rfl (by decide)
theorem m34_490 : M34 490 ls st H Q = M34 494 ls st H Q:=w_x at_490 rfl
theorem m34_493 : M34 493 ls st H Q = M34 494 ls (.int 0::st) H Q:=w_con at_493 rfl (by decide)
theorem m34_494 : M34 494 ls (.int z::st) H Q = Q (some (.int (nar .boolean z))) H:=w_iretN at_494 rfl (by simp)
theorem pf0_7 : pfR tables_1 y0.cls y0.name 7 = some ("RetimingEngine", 0,.array .int):=by decide +kernel
theorem m0_4a (hH : H.length = b) (hk : 1≤b) {vs : List Value} {r : AHeap} (hj : 0 < vs.length) : M0 4 (.val (.ref b)::[]) [] (H ++ (.object "RetimingEngine", vs)::r) Q = M0 12 (.val (.ref b)::[]) [] (H ++ (.object "RetimingEngine", vs.set 0 (.ref (b + (r.length + 1))))::(r ++ [(.array .int,List.replicate 32 (.int 0))])) Q:=w_iarr (n:=32) rfl hH hk (dc (.aload_n 0,1)) rfl (dc (.bipush 32,2)) (fun _ => rfl) (by decide) (dc (.newarray .int,2)) rfl (by decide +kernel) (by decide) (by decide) rfl (dc (.putfield 7,3)) pf0_7 hj
theorem pf0_13 : pfR tables_1 y0.cls y0.name 13 = some ("RetimingEngine", 1,.array .int):=by decide +kernel
theorem m0_12a (hH : H.length = b) (hk : 1≤b) {vs : List Value} {r : AHeap} (hj : 1 < vs.length) : M0 12 (.val (.ref b)::[]) [] (H ++ (.object "RetimingEngine", vs)::r) Q = M0 20 (.val (.ref b)::[]) [] (H ++ (.object "RetimingEngine", vs.set 1 (.ref (b + (r.length + 1))))::(r ++ [(.array .int,List.replicate 32 (.int 0))])) Q:=w_iarr (n:=32) rfl hH hk (dc (.aload_n 0,1)) rfl (dc (.bipush 32,2)) (fun _ => rfl) (by decide) (dc (.newarray .int,2)) rfl (by decide +kernel) (by decide) (by decide) rfl (dc (.putfield 13,3)) pf0_13 hj
theorem pf0_16 : pfR tables_1 y0.cls y0.name 16 = some ("RetimingEngine", 2,.array .int):=by decide +kernel
theorem m0_20a (hH : H.length = b) (hk : 1≤b) {vs : List Value} {r : AHeap} (hj : 2 < vs.length) : M0 20 (.val (.ref b)::[]) [] (H ++ (.object "RetimingEngine", vs)::r) Q = M0 28 (.val (.ref b)::[]) [] (H ++ (.object "RetimingEngine", vs.set 2 (.ref (b + (r.length + 1))))::(r ++ [(.array .int,List.replicate 32 (.int 0))])) Q:=w_iarr (n:=32) rfl hH hk (dc (.aload_n 0,1)) rfl (dc (.bipush 32,2)) (fun _ => rfl) (by decide) (dc (.newarray .int,2)) rfl (by decide +kernel) (by decide) (by decide) rfl (dc (.putfield 16,3)) pf0_16 hj
theorem pf0_19 : pfR tables_1 y0.cls y0.name 19 = some ("RetimingEngine", 3,.array .int):=by decide +kernel
theorem m0_28a (hH : H.length = b) (hk : 1≤b) {vs : List Value} {r : AHeap} (hj : 3 < vs.length) : M0 28 (.val (.ref b)::[]) [] (H ++ (.object "RetimingEngine", vs)::r) Q = M0 36 (.val (.ref b)::[]) [] (H ++ (.object "RetimingEngine", vs.set 3 (.ref (b + (r.length + 1))))::(r ++ [(.array .int,List.replicate 64 (.int 0))])) Q:=w_iarr (n:=64) rfl hH hk (dc (.aload_n 0,1)) rfl (dc (.bipush 64,2)) (fun _ => rfl) (by decide) (dc (.newarray .int,2)) rfl (by decide +kernel) (by decide) (by decide) rfl (dc (.putfield 19,3)) pf0_19 hj
theorem pf0_22 : pfR tables_1 y0.cls y0.name 22 = some ("RetimingEngine", 4,.array .int):=by decide +kernel
theorem m0_36a (hH : H.length = b) (hk : 1≤b) {vs : List Value} {r : AHeap} (hj : 4 < vs.length) : M0 36 (.val (.ref b)::[]) [] (H ++ (.object "RetimingEngine", vs)::r) Q = M0 44 (.val (.ref b)::[]) [] (H ++ (.object "RetimingEngine", vs.set 4 (.ref (b + (r.length + 1))))::(r ++ [(.array .int,List.replicate 64 (.int 0))])) Q:=w_iarr (n:=64) rfl hH hk (dc (.aload_n 0,1)) rfl (dc (.bipush 64,2)) (fun _ => rfl) (by decide) (dc (.newarray .int,2)) rfl (by decide +kernel) (by decide) (by decide) rfl (dc (.putfield 22,3)) pf0_22 hj
theorem pf0_25 : pfR tables_1 y0.cls y0.name 25 = some ("RetimingEngine", 5,.array .int):=by decide +kernel
theorem m0_44a (hH : H.length = b) (hk : 1≤b) {vs : List Value} {r : AHeap} (hj : 5 < vs.length) : M0 44 (.val (.ref b)::[]) [] (H ++ (.object "RetimingEngine", vs)::r) Q = M0 52 (.val (.ref b)::[]) [] (H ++ (.object "RetimingEngine", vs.set 5 (.ref (b + (r.length + 1))))::(r ++ [(.array .int,List.replicate 64 (.int 0))])) Q:=w_iarr (n:=64) rfl hH hk (dc (.aload_n 0,1)) rfl (dc (.bipush 64,2)) (fun _ => rfl) (by decide) (dc (.newarray .int,2)) rfl (by decide +kernel) (by decide) (by decide) rfl (dc (.putfield 25,3)) pf0_25 hj
theorem pf0_28 : pfR tables_1 y0.cls y0.name 28 = some ("RetimingEngine", 6,.array .int):=by decide +kernel
theorem m0_52a (hH : H.length = b) (hk : 1≤b) {vs : List Value} {r : AHeap} (hj : 6 < vs.length) : M0 52 (.val (.ref b)::[]) [] (H ++ (.object "RetimingEngine", vs)::r) Q = M0 60 (.val (.ref b)::[]) [] (H ++ (.object "RetimingEngine", vs.set 6 (.ref (b + (r.length + 1))))::(r ++ [(.array .int,List.replicate 64 (.int 0))])) Q:=w_iarr (n:=64) rfl hH hk (dc (.aload_n 0,1)) rfl (dc (.bipush 64,2)) (fun _ => rfl) (by decide) (dc (.newarray .int,2)) rfl (by decide +kernel) (by decide) (by decide) rfl (dc (.putfield 28,3)) pf0_28 hj
theorem pf0_31 : pfR tables_1 y0.cls y0.name 31 = some ("RetimingEngine", 7,.array .int):=by decide +kernel
theorem m0_60a (hH : H.length = b) (hk : 1≤b) {vs : List Value} {r : AHeap} (hj : 7 < vs.length) : M0 60 (.val (.ref b)::[]) [] (H ++ (.object "RetimingEngine", vs)::r) Q = M0 68 (.val (.ref b)::[]) [] (H ++ (.object "RetimingEngine", vs.set 7 (.ref (b + (r.length + 1))))::(r ++ [(.array .int,List.replicate 32 (.int 0))])) Q:=w_iarr (n:=32) rfl hH hk (dc (.aload_n 0,1)) rfl (dc (.bipush 32,2)) (fun _ => rfl) (by decide) (dc (.newarray .int,2)) rfl (by decide +kernel) (by decide) (by decide) rfl (dc (.putfield 31,3)) pf0_31 hj
theorem pf0_34 : pfR tables_1 y0.cls y0.name 34 = some ("RetimingEngine", 8,.array .int):=by decide +kernel
theorem m0_68a (hH : H.length = b) (hk : 1≤b) {vs : List Value} {r : AHeap} (hj : 8 < vs.length) : M0 68 (.val (.ref b)::[]) [] (H ++ (.object "RetimingEngine", vs)::r) Q = M0 76 (.val (.ref b)::[]) [] (H ++ (.object "RetimingEngine", vs.set 8 (.ref (b + (r.length + 1))))::(r ++ [(.array .int,List.replicate 64 (.int 0))])) Q:=w_iarr (n:=64) rfl hH hk (dc (.aload_n 0,1)) rfl (dc (.bipush 64,2)) (fun _ => rfl) (by decide) (dc (.newarray .int,2)) rfl (by decide +kernel) (by decide) (by decide) rfl (dc (.putfield 34,3)) pf0_34 hj
theorem pf0_37 : pfR tables_1 y0.cls y0.name 37 = some ("RetimingEngine", 9,.array .int):=by decide +kernel
theorem m0_76a (hH : H.length = b) (hk : 1≤b) {vs : List Value} {r : AHeap} (hj : 9 < vs.length) : M0 76 (.val (.ref b)::[]) [] (H ++ (.object "RetimingEngine", vs)::r) Q = M0 85 (.val (.ref b)::[]) [] (H ++ (.object "RetimingEngine", vs.set 9 (.ref (b + (r.length + 1))))::(r ++ [(.array .int,List.replicate 1024 (.int 0))])) Q:=w_iarr (n:=1024) rfl hH hk (dc (.aload_n 0,1)) rfl (dc (.sipush 1024,3)) (fun _ => rfl) (by decide) (dc (.newarray .int,2)) rfl (by decide +kernel) (by decide) (by decide) rfl (dc (.putfield 37,3)) pf0_37 hj
theorem pf0_40 : pfR tables_1 y0.cls y0.name 40 = some ("RetimingEngine", 10,.array .int):=by decide +kernel
theorem m0_85a (hH : H.length = b) (hk : 1≤b) {vs : List Value} {r : AHeap} (hj : 10 < vs.length) : M0 85 (.val (.ref b)::[]) [] (H ++ (.object "RetimingEngine", vs)::r) Q = M0 94 (.val (.ref b)::[]) [] (H ++ (.object "RetimingEngine", vs.set 10 (.ref (b + (r.length + 1))))::(r ++ [(.array .int,List.replicate 1024 (.int 0))])) Q:=w_iarr (n:=1024) rfl hH hk (dc (.aload_n 0,1)) rfl (dc (.sipush 1024,3)) (fun _ => rfl) (by decide) (dc (.newarray .int,2)) rfl (by decide +kernel) (by decide) (by decide) rfl (dc (.putfield 40,3)) pf0_40 hj
theorem pf0_43 : pfR tables_1 y0.cls y0.name 43 = some ("RetimingEngine", 11,.array .boolean):=by decide +kernel
theorem m0_94a (hH : H.length = b) (hk : 1≤b) {vs : List Value} {r : AHeap} (hj : 11 < vs.length) : M0 94 (.val (.ref b)::[]) [] (H ++ (.object "RetimingEngine", vs)::r) Q = M0 103 (.val (.ref b)::[]) [] (H ++ (.object "RetimingEngine", vs.set 11 (.ref (b + (r.length + 1))))::(r ++ [(.array .boolean,List.replicate 1024 (.int 0))])) Q:=w_iarr (n:=1024) rfl hH hk (dc (.aload_n 0,1)) rfl (dc (.sipush 1024,3)) (fun _ => rfl) (by decide) (dc (.newarray .boolean,2)) rfl (by decide +kernel) (by decide) (by decide) rfl (dc (.putfield 43,3)) pf0_43 hj
theorem pf0_47 : pfR tables_1 y0.cls y0.name 47 = some ("RetimingEngine", 12,.array .int):=by decide +kernel
theorem m0_103a (hH : H.length = b) (hk : 1≤b) {vs : List Value} {r : AHeap} (hj : 12 < vs.length) : M0 103 (.val (.ref b)::[]) [] (H ++ (.object "RetimingEngine", vs)::r) Q = M0 111 (.val (.ref b)::[]) [] (H ++ (.object "RetimingEngine", vs.set 12 (.ref (b + (r.length + 1))))::(r ++ [(.array .int,List.replicate 32 (.int 0))])) Q:=w_iarr (n:=32) rfl hH hk (dc (.aload_n 0,1)) rfl (dc (.bipush 32,2)) (fun _ => rfl) (by decide) (dc (.newarray .int,2)) rfl (by decide +kernel) (by decide) (by decide) rfl (dc (.putfield 47,3)) pf0_47 hj
theorem pf0_50 : pfR tables_1 y0.cls y0.name 50 = some ("RetimingEngine", 13,.array .int):=by decide +kernel
theorem m0_111a (hH : H.length = b) (hk : 1≤b) {vs : List Value} {r : AHeap} (hj : 13 < vs.length) : M0 111 (.val (.ref b)::[]) [] (H ++ (.object "RetimingEngine", vs)::r) Q = M0 119 (.val (.ref b)::[]) [] (H ++ (.object "RetimingEngine", vs.set 13 (.ref (b + (r.length + 1))))::(r ++ [(.array .int,List.replicate 32 (.int 0))])) Q:=w_iarr (n:=32) rfl hH hk (dc (.aload_n 0,1)) rfl (dc (.bipush 32,2)) (fun _ => rfl) (by decide) (dc (.newarray .int,2)) rfl (by decide +kernel) (by decide) (by decide) rfl (dc (.putfield 50,3)) pf0_50 hj
theorem pf0_53 : pfR tables_1 y0.cls y0.name 53 = some ("RetimingEngine", 14,.array .int):=by decide +kernel
theorem m0_119a (hH : H.length = b) (hk : 1≤b) {vs : List Value} {r : AHeap} (hj : 14 < vs.length) : M0 119 (.val (.ref b)::[]) [] (H ++ (.object "RetimingEngine", vs)::r) Q = M0 127 (.val (.ref b)::[]) [] (H ++ (.object "RetimingEngine", vs.set 14 (.ref (b + (r.length + 1))))::(r ++ [(.array .int,List.replicate 32 (.int 0))])) Q:=w_iarr (n:=32) rfl hH hk (dc (.aload_n 0,1)) rfl (dc (.bipush 32,2)) (fun _ => rfl) (by decide) (dc (.newarray .int,2)) rfl (by decide +kernel) (by decide) (by decide) rfl (dc (.putfield 53,3)) pf0_53 hj
theorem pf0_56 : pfR tables_1 y0.cls y0.name 56 = some ("RetimingEngine", 15,.array .int):=by decide +kernel
theorem m0_127a (hH : H.length = b) (hk : 1≤b) {vs : List Value} {r : AHeap} (hj : 15 < vs.length) : M0 127 (.val (.ref b)::[]) [] (H ++ (.object "RetimingEngine", vs)::r) Q = M0 135 (.val (.ref b)::[]) [] (H ++ (.object "RetimingEngine", vs.set 15 (.ref (b + (r.length + 1))))::(r ++ [(.array .int,List.replicate 32 (.int 0))])) Q:=w_iarr (n:=32) rfl hH hk (dc (.aload_n 0,1)) rfl (dc (.bipush 32,2)) (fun _ => rfl) (by decide) (dc (.newarray .int,2)) rfl (by decide +kernel) (by decide) (by decide) rfl (dc (.putfield 56,3)) pf0_56 hj
theorem pf0_59 : pfR tables_1 y0.cls y0.name 59 = some ("RetimingEngine", 16,.array .int):=by decide +kernel
theorem m0_135a (hH : H.length = b) (hk : 1≤b) {vs : List Value} {r : AHeap} (hj : 16 < vs.length) : M0 135 (.val (.ref b)::[]) [] (H ++ (.object "RetimingEngine", vs)::r) Q = M0 143 (.val (.ref b)::[]) [] (H ++ (.object "RetimingEngine", vs.set 16 (.ref (b + (r.length + 1))))::(r ++ [(.array .int,List.replicate 32 (.int 0))])) Q:=w_iarr (n:=32) rfl hH hk (dc (.aload_n 0,1)) rfl (dc (.bipush 32,2)) (fun _ => rfl) (by decide) (dc (.newarray .int,2)) rfl (by decide +kernel) (by decide) (by decide) rfl (dc (.putfield 59,3)) pf0_59 hj
theorem pf0_62 : pfR tables_1 y0.cls y0.name 62 = some ("RetimingEngine", 17,.array .int):=by decide +kernel
theorem m0_143a (hH : H.length = b) (hk : 1≤b) {vs : List Value} {r : AHeap} (hj : 17 < vs.length) : M0 143 (.val (.ref b)::[]) [] (H ++ (.object "RetimingEngine", vs)::r) Q = M0 152 (.val (.ref b)::[]) [] (H ++ (.object "RetimingEngine", vs.set 17 (.ref (b + (r.length + 1))))::(r ++ [(.array .int,List.replicate 1024 (.int 0))])) Q:=w_iarr (n:=1024) rfl hH hk (dc (.aload_n 0,1)) rfl (dc (.sipush 1024,3)) (fun _ => rfl) (by decide) (dc (.newarray .int,2)) rfl (by decide +kernel) (by decide) (by decide) rfl (dc (.putfield 62,3)) pf0_62 hj
def A0 : Nat→List Int32
  | 0 => List.replicate 32 0
  | 1 => List.replicate 32 0
  | 2 => List.replicate 32 0
  | 3 => List.replicate 64 0
  | 4 => List.replicate 64 0
  | 5 => List.replicate 64 0
  | 6 => List.replicate 64 0
  | 7 => List.replicate 32 0
  | 8 => List.replicate 64 0
  | 9 => List.replicate 1024 0
  | 10 => List.replicate 1024 0
  | 11 => List.replicate 1024 0
  | 12 => List.replicate 32 0
  | 13 => List.replicate 32 0
  | 14 => List.replicate 32 0
  | 15 => List.replicate 32 0
  | 16 => List.replicate 32 0
  | 17 => List.replicate 1024 0
  | _ => []
theorem A0l_0 : (A0 0).length = 32:=List.length_replicate
theorem A0g_0 (j : Int32) : getA (A0 0) j = 0:=getA_rep _ _
theorem A0l_1 : (A0 1).length = 32:=List.length_replicate
theorem A0g_1 (j : Int32) : getA (A0 1) j = 0:=getA_rep _ _
theorem A0l_2 : (A0 2).length = 32:=List.length_replicate
theorem A0g_2 (j : Int32) : getA (A0 2) j = 0:=getA_rep _ _
theorem A0l_3 : (A0 3).length = 64:=List.length_replicate
theorem A0g_3 (j : Int32) : getA (A0 3) j = 0:=getA_rep _ _
theorem A0l_4 : (A0 4).length = 64:=List.length_replicate
theorem A0g_4 (j : Int32) : getA (A0 4) j = 0:=getA_rep _ _
theorem A0l_5 : (A0 5).length = 64:=List.length_replicate
theorem A0g_5 (j : Int32) : getA (A0 5) j = 0:=getA_rep _ _
theorem A0l_6 : (A0 6).length = 64:=List.length_replicate
theorem A0g_6 (j : Int32) : getA (A0 6) j = 0:=getA_rep _ _
theorem A0l_7 : (A0 7).length = 32:=List.length_replicate
theorem A0g_7 (j : Int32) : getA (A0 7) j = 0:=getA_rep _ _
theorem A0l_8 : (A0 8).length = 64:=List.length_replicate
theorem A0g_8 (j : Int32) : getA (A0 8) j = 0:=getA_rep _ _
theorem A0l_9 : (A0 9).length = 1024:=List.length_replicate
theorem A0g_9 (j : Int32) : getA (A0 9) j = 0:=getA_rep _ _
theorem A0l_10 : (A0 10).length = 1024:=List.length_replicate
theorem A0g_10 (j : Int32) : getA (A0 10) j = 0:=getA_rep _ _
theorem A0l_11 : (A0 11).length = 1024:=List.length_replicate
theorem A0g_11 (j : Int32) : getA (A0 11) j = 0:=getA_rep _ _
theorem A0l_12 : (A0 12).length = 32:=List.length_replicate
theorem A0g_12 (j : Int32) : getA (A0 12) j = 0:=getA_rep _ _
theorem A0l_13 : (A0 13).length = 32:=List.length_replicate
theorem A0g_13 (j : Int32) : getA (A0 13) j = 0:=getA_rep _ _
theorem A0l_14 : (A0 14).length = 32:=List.length_replicate
theorem A0g_14 (j : Int32) : getA (A0 14) j = 0:=getA_rep _ _
theorem A0l_15 : (A0 15).length = 32:=List.length_replicate
theorem A0g_15 (j : Int32) : getA (A0 15) j = 0:=getA_rep _ _
theorem A0l_16 : (A0 16).length = 32:=List.length_replicate
theorem A0g_16 (j : Int32) : getA (A0 16) j = 0:=getA_rep _ _
theorem A0l_17 : (A0 17).length = 1024:=List.length_replicate
theorem A0g_17 (j : Int32) : getA (A0 17) j = 0:=getA_rep _ _
theorem own_ctor0 (hb : pre.length = b) (hk : 1≤b) : M0 0 (.val (.ref b)::[]) [] (pre ++ [(.object "RetimingEngine", D0)]) Q = M0 152 (.val (.ref b)::[]) [] (put b pre (fun _ => 0) A0 []) Q:=by
  rw [m0_0,m0_1,m0_4a hb hk (by (repeat rw [List.length_set]); exact Nat.le_of_ble_eq_true rfl),m0_12a hb hk (by (repeat rw [List.length_set]); exact Nat.le_of_ble_eq_true rfl),m0_20a hb hk (by (repeat rw [List.length_set]); exact Nat.le_of_ble_eq_true rfl),m0_28a hb hk (by (repeat rw [List.length_set]); exact Nat.le_of_ble_eq_true rfl),m0_36a hb hk (by (repeat rw [List.length_set]); exact Nat.le_of_ble_eq_true rfl),m0_44a hb hk (by (repeat rw [List.length_set]); exact Nat.le_of_ble_eq_true rfl),m0_52a hb hk (by (repeat rw [List.length_set]); exact Nat.le_of_ble_eq_true rfl),m0_60a hb hk (by (repeat rw [List.length_set]); exact Nat.le_of_ble_eq_true rfl),m0_68a hb hk (by (repeat rw [List.length_set]); exact Nat.le_of_ble_eq_true rfl),m0_76a hb hk (by (repeat rw [List.length_set]); exact Nat.le_of_ble_eq_true rfl),m0_85a hb hk (by (repeat rw [List.length_set]); exact Nat.le_of_ble_eq_true rfl),m0_94a hb hk (by (repeat rw [List.length_set]); exact Nat.le_of_ble_eq_true rfl),m0_103a hb hk (by (repeat rw [List.length_set]); exact Nat.le_of_ble_eq_true rfl),m0_111a hb hk (by (repeat rw [List.length_set]); exact Nat.le_of_ble_eq_true rfl),m0_119a hb hk (by (repeat rw [List.length_set]); exact Nat.le_of_ble_eq_true rfl),m0_127a hb hk (by (repeat rw [List.length_set]); exact Nat.le_of_ble_eq_true rfl),m0_135a hb hk (by (repeat rw [List.length_set]); exact Nat.le_of_ble_eq_true rfl),m0_143a hb hk (by (repeat rw [List.length_set]); exact Nat.le_of_ble_eq_true rfl)]
  simp only [put,pad_eq hb,objv,D0,A0,List.map_replicate,List.set_cons_succ,List.set_cons_zero,List.nil_append,List.cons_append,List.length_cons,List.length_nil,List.append_nil]
end Rules
def own_k5_0:=And.intro (And.intro (And.intro @m5_0 (And.intro @m5_1 @m5_2)) (And.intro @m5_5 (And.intro @m5_6 @m5_9))) (And.intro (And.intro @m5_10 (And.intro @m5_11 @m5_12)) (And.intro (And.intro @m5_13 @m5_16) (And.intro @m5_17 @m5_18)))
def own_k4_0:=And.intro (And.intro (And.intro @m4_3 (And.intro @m4_4 @m4_7)) (And.intro @m4_10 (And.intro @m4_11 @m4_14))) (And.intro (And.intro @m4_15 (And.intro @m4_16 @m4_17)) (And.intro @m4_20 (And.intro @m4_23 @m4_24i)))
def own_k4_1:=And.intro (And.intro (And.intro (And.intro @m4_26 @m4_27) (And.intro @m4_30 @m4_33)) (And.intro (And.intro @m4_34 @m4_35) (And.intro @m4_36 @m4_39))) (And.intro (And.intro (And.intro @m4_42 @m4_43) (And.intro @m4_46 @m4_47)) (And.intro (And.intro @m4_50 @m4_51) (And.intro @m4_52 @m4_53)))
def own_k4_2:=And.intro (And.intro (And.intro @m4_54 @m4_55) (And.intro @m4_56 @m4_57)) (And.intro (And.intro @m4_60 @m4_63) (And.intro @m4_64i (And.intro @m4_65 @m4_66u)))
def own_k4_3:=And.intro (And.intro (And.intro (And.intro @m4_68 @m4_69) (And.intro @m4_72 @m4_75)) (And.intro (And.intro @m4_76 @m4_79) (And.intro @m4_80 @m4_81))) (And.intro (And.intro (And.intro @m4_84 @m4_85) (And.intro @m4_87 @m4_90)) (And.intro (And.intro @m4_91 @m4_94) (And.intro @m4_95 @m4_96)))
def own_k4_4:=And.intro (And.intro @m4_97 @m4_100) (And.intro @m4_103 (And.intro @m4_106 @m4_107i))
def own_k4_5:=And.intro (And.intro (And.intro (And.intro @m4_109 @m4_110) (And.intro @m4_113 @m4_114)) (And.intro (And.intro @m4_116 @m4_119) (And.intro @m4_120 @m4_123))) (And.intro (And.intro (And.intro @m4_124 @m4_125u) (And.intro @m4_125i @m4_125g)) (And.intro (And.intro @m4_127 @m4_128u) (And.intro @m4_128i @m4_128g)))
def own_k4_6:=And.intro (And.intro (And.intro (And.intro @m4_132 @m4_133) (And.intro @m4_136 @m4_139)) (And.intro (And.intro @m4_140 @m4_143) (And.intro @m4_145 @m4_146))) (And.intro (And.intro (And.intro @m4_148 @m4_151) (And.intro @m4_152 @m4_154)) (And.intro (And.intro @m4_155 @m4_158) (And.intro @m4_161 @m4_162)))
def own_k4_7:=And.intro (And.intro (And.intro (And.intro @m4_165 @m4_167) (And.intro @m4_168u @m4_168i)) (And.intro (And.intro @m4_168g @m4_170) (And.intro @m4_171 @m4_174))) (And.intro (And.intro (And.intro @m4_176 @m4_177) (And.intro @m4_178 @m4_179)) (And.intro (And.intro @m4_180 @m4_181) (And.intro @m4_182 @m4_185)))
def own_k4_8:=And.intro (And.intro (And.intro (And.intro @m4_187 @m4_188) (And.intro @m4_191 @m4_192)) (And.intro (And.intro @m4_194 @m4_197) (And.intro @m4_198 @m4_201))) (And.intro (And.intro (And.intro @m4_202 @m4_204) (And.intro @m4_205 @m4_208)) (And.intro (And.intro @m4_211 @m4_214) (And.intro @m4_217 @m4_220)))
def own_k4_9:=And.intro (And.intro @m4_221 (And.intro @m4_222 @m4_225)) (And.intro (And.intro @m4_228 @m4_229) (And.intro @m4_232 @m4_233))
def own_k6_0:=And.intro (And.intro @m6_0 @m6_1u) (And.intro @m6_2 @m6_3u)
def own_k6_1:=And.intro (And.intro (And.intro (And.intro @m6_5 @m6_6) (And.intro @m6_9 @m6_12)) (And.intro (And.intro @m6_13 @m6_16) (And.intro @m6_17 @m6_18u))) (And.intro (And.intro (And.intro @m6_18i @m6_18g) (And.intro @m6_20 @m6_21)) (And.intro (And.intro @m6_24 @m6_26) (And.intro @m6_27u @m6_27i)))
def own_k6_2:=And.intro (And.intro @m6_27g @m6_29) (And.intro @m6_30u (And.intro @m6_30i @m6_30g))
def own_k6_3:=And.intro (And.intro (And.intro (And.intro @m6_34 @m6_35) (And.intro @m6_38 @m6_41)) (And.intro (And.intro @m6_42 @m6_45) (And.intro @m6_47 @m6_48))) (And.intro (And.intro (And.intro @m6_50 @m6_53) (And.intro @m6_54 @m6_56)) (And.intro (And.intro @m6_57 @m6_60) (And.intro @m6_63 @m6_64)))
def own_k6_4:=And.intro (And.intro (And.intro (And.intro @m6_67 @m6_68) (And.intro @m6_71 @m6_73)) (And.intro (And.intro @m6_74 @m6_75) (And.intro @m6_76 @m6_79))) (And.intro (And.intro (And.intro @m6_81 @m6_82) (And.intro @m6_83u @m6_83i)) (And.intro (And.intro @m6_83g @m6_85) (And.intro @m6_87 @m6_89)))
def own_k6_5:=And.intro (And.intro (And.intro (And.intro @m6_92 @m6_94i) (And.intro @m6_96 @m6_99)) (And.intro (And.intro @m6_102 @m6_103) (And.intro @m6_106 @m6_108))) (And.intro (And.intro (And.intro @m6_110 @m6_111) (And.intro @m6_113 @m6_114)) (And.intro (And.intro @m6_117 @m6_119i) (And.intro @m6_120 @m6_123)))
def own_k8_0:=And.intro (And.intro (And.intro (And.intro @m8_0 @m8_1) (And.intro @m8_4 @m8_5)) (And.intro (And.intro @m8_6 @m8_9) (And.intro @m8_10 @m8_11))) (And.intro (And.intro (And.intro @m8_14 @m8_15) (And.intro @m8_16 @m8_19)) (And.intro (And.intro @m8_20 @m8_21) (And.intro @m8_24 @m8_25)))
def own_k8_1:=And.intro (And.intro (And.intro (And.intro @m8_26 @m8_29) (And.intro @m8_30 @m8_31)) (And.intro (And.intro @m8_34 @m8_35) (And.intro @m8_36 @m8_39))) (And.intro (And.intro (And.intro @m8_40 @m8_43) (And.intro @m8_44 @m8_45)) (And.intro (And.intro @m8_46 @m8_47) (And.intro @m8_50 @m8_51)))
def own_k8_2:=And.intro (And.intro @m8_52 (And.intro @m8_53 @m8_54)) (And.intro (And.intro @m8_57 @m8_58) (And.intro @m8_59 @m8_60))
def own_k9_0:=And.intro (And.intro (And.intro (And.intro @m9_3 @m9_4) (And.intro @m9_7 @m9_10)) (And.intro (And.intro @m9_11 @m9_13) (And.intro @m9_14 @m9_15))) (And.intro (And.intro (And.intro @m9_16u @m9_16i) (And.intro @m9_16g @m9_17)) (And.intro (And.intro @m9_18 @m9_21) (And.intro @m9_22 @m9_23)))
def own_k9_1:=And.intro (And.intro @m9_26 @m9_29) (And.intro @m9_30u (And.intro @m9_30i @m9_30g))
def own_k9_2:=And.intro (And.intro (And.intro (And.intro @m9_34 @m9_35) (And.intro @m9_38 @m9_41)) (And.intro (And.intro @m9_42 @m9_44) (And.intro @m9_45 @m9_47))) (And.intro (And.intro (And.intro @m9_48u @m9_48i) (And.intro @m9_48g @m9_50)) (And.intro (And.intro @m9_51 @m9_54) (And.intro @m9_56 @m9_57)))
def own_k9_3:=And.intro (And.intro (And.intro (And.intro @m9_60 @m9_61) (And.intro @m9_62 @m9_64)) (And.intro (And.intro @m9_65 @m9_67) (And.intro @m9_68 @m9_69))) (And.intro (And.intro (And.intro @m9_72 @m9_73) (And.intro @m9_74 @m9_75)) (And.intro (And.intro @m9_78 @m9_80) (And.intro @m9_81 @m9_82)))
def own_k9_4:=And.intro (And.intro (And.intro @m9_83 (And.intro @m9_86 @m9_87)) (And.intro (And.intro @m9_88 @m9_89) (And.intro @m9_92 @m9_94))) (And.intro (And.intro @m9_95 (And.intro @m9_96 @m9_99)) (And.intro (And.intro @m9_102 @m9_105) (And.intro @m9_108 @m9_111)))
def own_k7_0:=And.intro (And.intro @m7_3 (And.intro @m7_4 @m7_7)) (And.intro (And.intro @m7_10 @m7_11u) (And.intro @m7_11i @m7_11g))
def own_k7_1:=And.intro (And.intro (And.intro (And.intro @m7_13 @m7_14) (And.intro @m7_17 @m7_20)) (And.intro (And.intro @m7_21 @m7_24) (And.intro @m7_25 @m7_27))) (And.intro (And.intro (And.intro @m7_28 @m7_29) (And.intro @m7_30 @m7_31)) (And.intro (And.intro @m7_32 @m7_35) (And.intro @m7_38 @m7_41)))
def own_k7_2:=And.intro (And.intro (And.intro (And.intro @m7_47 @m7_48) (And.intro @m7_51 @m7_54)) (And.intro (And.intro @m7_55 @m7_57) (And.intro @m7_58 @m7_59))) (And.intro (And.intro (And.intro @m7_60u @m7_60i) (And.intro @m7_60g @m7_61)) (And.intro (And.intro @m7_62 @m7_65) (And.intro @m7_66 @m7_67)))
def own_k7_3:=And.intro (And.intro (And.intro @m7_68 (And.intro @m7_69 @m7_72)) (And.intro (And.intro @m7_73 @m7_74) (And.intro @m7_75 @m7_76))) (And.intro (And.intro @m7_79 (And.intro @m7_80 @m7_81)) (And.intro (And.intro @m7_82 @m7_85) (And.intro @m7_88 @m7_89i)))
def own_k7_4:=And.intro (And.intro (And.intro (And.intro @m7_91 @m7_92) (And.intro @m7_95 @m7_98)) (And.intro (And.intro @m7_99 @m7_100) (And.intro @m7_103 @m7_104))) (And.intro (And.intro (And.intro @m7_105 @m7_107) (And.intro @m7_108 @m7_109)) (And.intro (And.intro @m7_112 @m7_113) (And.intro @m7_114 @m7_115)))
def own_k7_5:=And.intro (And.intro (And.intro @m7_116 (And.intro @m7_119 @m7_120)) (And.intro (And.intro @m7_121 @m7_122) (And.intro @m7_125 @m7_126))) (And.intro (And.intro (And.intro @m7_129 @m7_130) (And.intro @m7_131 @m7_132)) (And.intro (And.intro @m7_135 @m7_138) (And.intro @m7_141 @m7_142i)))
def own_k7_6:=And.intro (And.intro (And.intro @m7_144 @m7_145) (And.intro @m7_148 @m7_151)) (And.intro (And.intro @m7_152 @m7_153) (And.intro @m7_156 (And.intro @m7_159 @m7_162)))
def own_k12_0:=And.intro (And.intro @m12_0 @m12_1u) (And.intro @m12_2 @m12_3u)
def own_k12_1:=And.intro (And.intro (And.intro (And.intro @m12_5 @m12_6) (And.intro @m12_9 @m12_12)) (And.intro (And.intro @m12_13 @m12_16) (And.intro @m12_17 @m12_18u))) (And.intro (And.intro (And.intro @m12_18i @m12_18g) (And.intro @m12_20 @m12_21)) (And.intro (And.intro @m12_24 @m12_25) (And.intro @m12_28 @m12_29)))
def own_k12_2:=And.intro (And.intro (And.intro (And.intro @m12_30 @m12_31) (And.intro @m12_32 @m12_35)) (And.intro (And.intro @m12_36 @m12_37) (And.intro @m12_38u @m12_38i))) (And.intro (And.intro (And.intro @m12_38g @m12_40) (And.intro @m12_42 @m12_43)) (And.intro (And.intro @m12_46 @m12_48) (And.intro @m12_49 @m12_52)))
def own_k12_3:=And.intro (And.intro (And.intro @m12_53 @m12_56) (And.intro @m12_58 (And.intro @m12_60 @m12_61))) (And.intro (And.intro @m12_62i @m12_63) (And.intro @m12_66 (And.intro @m12_69 @m12_70i)))
def own_k12_4:=And.intro (And.intro @m12_72 (And.intro @m12_73 @m12_76)) (And.intro (And.intro @m12_79 @m12_80u) (And.intro @m12_80i @m12_80g))
def own_k12_5:=And.intro (And.intro (And.intro (And.intro @m12_84 @m12_85) (And.intro @m12_88 @m12_91)) (And.intro (And.intro @m12_92 @m12_94) (And.intro @m12_95 @m12_97))) (And.intro (And.intro (And.intro @m12_98u @m12_98i) (And.intro @m12_98g @m12_100)) (And.intro (And.intro @m12_101 @m12_104) (And.intro @m12_106 @m12_107)))
def own_k12_6:=And.intro (And.intro (And.intro (And.intro @m12_110 @m12_111) (And.intro @m12_114 @m12_116)) (And.intro (And.intro @m12_117 @m12_118) (And.intro @m12_121 @m12_123))) (And.intro (And.intro (And.intro @m12_124 @m12_125) (And.intro @m12_126 @m12_129)) (And.intro (And.intro @m12_130 @m12_133) (And.intro @m12_135 @m12_136)))
def own_k12_7:=And.intro (And.intro (And.intro (And.intro @m12_137 @m12_140) (And.intro @m12_142 @m12_143)) (And.intro (And.intro @m12_144 @m12_145) (And.intro @m12_146u @m12_146i))) (And.intro (And.intro (And.intro @m12_146g @m12_148) (And.intro @m12_150 @m12_151)) (And.intro (And.intro @m12_154 @m12_155) (And.intro @m12_156 @m12_159)))
def own_k12_8:=And.intro (And.intro (And.intro @m12_160 (And.intro @m12_163 @m12_164)) (And.intro @m12_166 (And.intro @m12_167 @m12_168i))) (And.intro (And.intro @m12_169 (And.intro @m12_172 @m12_175)) (And.intro @m12_178 (And.intro @m12_181 @m12_182)))
def own_k11_0:=And.intro (And.intro (And.intro @m11_3 (And.intro @m11_4 @m11_7)) (And.intro @m11_10 (And.intro @m11_11 @m11_14))) (And.intro (And.intro @m11_15 (And.intro @m11_16 @m11_17)) (And.intro @m11_20 (And.intro @m11_23 @m11_24i)))
def own_k11_1:=And.intro (And.intro (And.intro @m11_26 (And.intro @m11_27 @m11_30)) (And.intro (And.intro @m11_31 @m11_32) (And.intro @m11_35 @m11_36))) (And.intro (And.intro (And.intro @m11_37 @m11_40) (And.intro @m11_43 @m11_44)) (And.intro (And.intro @m11_45 @m11_48) (And.intro @m11_51 @m11_52)))
def own_k10_0:=And.intro (And.intro @m10_0 (And.intro @m10_1u @m10_2)) (And.intro (And.intro @m10_3 @m10_6u) (And.intro @m10_7 @m10_8u))
def own_k10_1:=And.intro (And.intro (And.intro (And.intro @m10_10 @m10_12) (And.intro @m10_15 @m10_16)) (And.intro (And.intro @m10_17 @m10_20) (And.intro @m10_21 @m10_22))) (And.intro (And.intro (And.intro @m10_23 @m10_24) (And.intro @m10_25 @m10_26)) (And.intro (And.intro @m10_27u @m10_27i) (And.intro @m10_27g @m10_29)))
def own_k10_2:=And.intro (And.intro (And.intro @m10_30 (And.intro @m10_32 @m10_35)) (And.intro (And.intro @m10_38 @m10_40i) (And.intro @m10_41 @m10_44))) (And.intro (And.intro @m10_46 (And.intro @m10_47 @m10_48i)) (And.intro (And.intro @m10_49 @m10_52) (And.intro @m10_55 @m10_56)))
def own_k13_0:=And.intro (And.intro (And.intro (And.intro @m13_3 @m13_4) (And.intro @m13_7 @m13_10)) (And.intro (And.intro @m13_11 @m13_14) (And.intro @m13_15 @m13_16))) (And.intro (And.intro (And.intro @m13_19 @m13_20) (And.intro @m13_21 @m13_22)) (And.intro (And.intro @m13_25 @m13_26) (And.intro @m13_27 @m13_28)))
def own_k13_1:=And.intro (And.intro @m13_29 @m13_32) (And.intro @m13_35 @m13_36i)
def own_k13_2:=And.intro (And.intro (And.intro (And.intro @m13_38 @m13_39) (And.intro @m13_42 @m13_45)) (And.intro (And.intro @m13_46 @m13_49) (And.intro @m13_50 @m13_51))) (And.intro (And.intro (And.intro @m13_54 @m13_55) (And.intro @m13_56 @m13_57)) (And.intro (And.intro @m13_60 @m13_61) (And.intro @m13_64 @m13_65)))
def own_k13_3:=And.intro (And.intro (And.intro @m13_66 (And.intro @m13_67 @m13_68)) (And.intro (And.intro @m13_69 @m13_72) (And.intro @m13_73 @m13_76))) (And.intro (And.intro @m13_77 (And.intro @m13_78 @m13_79)) (And.intro (And.intro @m13_80 @m13_81) (And.intro @m13_84 @m13_87)))
def own_k3_0:=And.intro (And.intro (And.intro (And.intro @m3_0 @m3_1) (And.intro @m3_4 @m3_7)) (And.intro (And.intro @m3_8 @m3_11) (And.intro @m3_12 @m3_13))) (And.intro (And.intro (And.intro @m3_16 @m3_19) (And.intro @m3_21 @m3_22)) (And.intro (And.intro @m3_23 @m3_24) (And.intro @m3_27 @m3_30)))
def own_k3_1:=And.intro (And.intro (And.intro (And.intro @m3_32 @m3_33) (And.intro @m3_34 @m3_35)) (And.intro (And.intro @m3_36 @m3_39) (And.intro @m3_42 @m3_43))) (And.intro (And.intro (And.intro @m3_46 @m3_47) (And.intro @m3_48 @m3_51)) (And.intro (And.intro @m3_54 @m3_55) (And.intro @m3_56 @m3_59)))
def own_k3_2:=And.intro (And.intro (And.intro (And.intro @m3_62 @m3_63) (And.intro @m3_64 @m3_67)) (And.intro (And.intro @m3_68 @m3_69) (And.intro @m3_72 @m3_73))) (And.intro (And.intro (And.intro @m3_74 @m3_75) (And.intro @m3_76 @m3_79)) (And.intro (And.intro @m3_82 @m3_83) (And.intro @m3_84 @m3_87)))
def own_k24_0:=And.intro (And.intro (And.intro @m24_0 (And.intro @m24_1 @m24_2)) (And.intro @m24_3u (And.intro @m24_4 @m24_5))) (And.intro (And.intro @m24_8 (And.intro @m24_9 @m24_10)) (And.intro @m24_11 (And.intro @m24_14 @m24_15)))
def own_k23_0:=And.intro (And.intro (And.intro @m23_0 (And.intro @m23_1 @m23_2)) (And.intro @m23_2p (And.intro @m23_3 @m23_6))) (And.intro (And.intro @m23_7 (And.intro @m23_8 @m23_8p)) (And.intro @m23_9 (And.intro @m23_12 @m23_13)))
def own_k25_0:=And.intro (And.intro (And.intro @m25_0 @m25_1) (And.intro @m25_2 (And.intro @m25_3 @m25_4))) (And.intro (And.intro @m25_5 @m25_6) (And.intro @m25_9 (And.intro @m25_11 @m25_14)))
def own_k28_0:=And.intro (And.intro (And.intro @m28_0 @m28_1) (And.intro @m28_3 (And.intro @m28_4 @m28_5))) (And.intro (And.intro @m28_6 @m28_7) (And.intro @m28_10 (And.intro @m28_12 @m28_15)))
def own_k26_0:=And.intro (And.intro (And.intro @m26_0 @m26_1) (And.intro @m26_3 (And.intro @m26_4 @m26_5))) (And.intro (And.intro @m26_6 @m26_7) (And.intro @m26_10 (And.intro @m26_11 @m26_14)))
def own_k27_0:=And.intro (And.intro (And.intro @m27_0 @m27_1) (And.intro @m27_3 (And.intro @m27_4 @m27_5))) (And.intro (And.intro @m27_6 @m27_7) (And.intro @m27_10 (And.intro @m27_11 @m27_14)))
def own_k31_0:=And.intro (And.intro (And.intro @m31_0 (And.intro @m31_1 @m31_2)) (And.intro @m31_3 (And.intro @m31_4 @m31_5))) (And.intro (And.intro @m31_6 (And.intro @m31_7 @m31_8)) (And.intro (And.intro @m31_9 @m31_10) (And.intro @m31_11 @m31_12)))
def own_k30_0:=And.intro (And.intro (And.intro (And.intro @m30_0 @m30_1) (And.intro @m30_2 @m30_3)) (And.intro (And.intro @m30_4 @m30_5) (And.intro @m30_6 @m30_7))) (And.intro (And.intro (And.intro @m30_8 @m30_9) (And.intro @m30_11 @m30_12)) (And.intro (And.intro @m30_14 @m30_17) (And.intro @m30_18 @m30_19)))
def own_k30_1:=And.intro (And.intro (And.intro @m30_21 @m30_22) (And.intro @m30_23 @m30_24)) (And.intro (And.intro @m30_25 @m30_26) (And.intro @m30_28 (And.intro @m30_29 @m30_30)))
def own_k29_0:=And.intro (And.intro @m29_0 @m29_1) (And.intro @m29_3 @m29_4u)
def own_k29_1:=And.intro (And.intro (And.intro (And.intro @m29_8 @m29_9) (And.intro @m29_12 @m29_14)) (And.intro (And.intro @m29_16 @m29_18) (And.intro @m29_19 @m29_21))) (And.intro (And.intro (And.intro @m29_24 @m29_26) (And.intro @m29_27 @m29_28)) (And.intro (And.intro @m29_29 @m29_32) (And.intro @m29_34 @m29_37)))
def own_k29_3:=And.intro (And.intro (And.intro @m29_48 @m29_49) (And.intro @m29_52 (And.intro @m29_54 @m29_57))) (And.intro (And.intro @m29_59 @m29_61) (And.intro @m29_62u (And.intro @m29_62i @m29_62g)))
def own_k29_4:=And.intro (And.intro (And.intro (And.intro @m29_66 @m29_67) (And.intro @m29_70 @m29_71)) (And.intro (And.intro @m29_73 @m29_74) (And.intro @m29_75 @m29_76))) (And.intro (And.intro (And.intro @m29_77 @m29_78) (And.intro @m29_81 @m29_84)) (And.intro (And.intro @m29_85 @m29_86) (And.intro @m29_88 @m29_91u)))
def own_k29_5:=And.intro (And.intro (And.intro (And.intro @m29_91i @m29_91g) (And.intro @m29_93 @m29_94)) (And.intro (And.intro @m29_95 @m29_97) (And.intro @m29_100u @m29_100i))) (And.intro (And.intro (And.intro @m29_100g @m29_102) (And.intro @m29_104 @m29_106)) (And.intro (And.intro @m29_108 @m29_111) (And.intro @m29_112 @m29_114)))
def own_k29_6:=And.intro (And.intro (And.intro (And.intro @m29_117 @m29_119) (And.intro @m29_120 @m29_121)) (And.intro (And.intro @m29_122 @m29_123u) (And.intro @m29_123i @m29_123g))) (And.intro (And.intro (And.intro @m29_125 @m29_127) (And.intro @m29_129 @m29_131)) (And.intro (And.intro @m29_133 @m29_136) (And.intro @m29_139 @m29_141)))
def own_k29_7:=And.intro (And.intro (And.intro (And.intro @m29_143 @m29_145) (And.intro @m29_147 @m29_150)) (And.intro (And.intro @m29_152 @m29_155) (And.intro @m29_158 @m29_160))) (And.intro (And.intro (And.intro @m29_162 @m29_163) (And.intro @m29_166 @m29_167)) (And.intro (And.intro @m29_170 @m29_171i) (And.intro @m29_173 @m29_175)))
def own_k29_8:=And.intro (And.intro (And.intro @m29_177 (And.intro @m29_180 @m29_183)) (And.intro @m29_185 (And.intro @m29_188 @m29_189))) (And.intro (And.intro @m29_190 (And.intro @m29_191i @m29_193)) (And.intro @m29_194u (And.intro @m29_194i @m29_194g)))
def own_k29_9:=And.intro (And.intro (And.intro (And.intro @m29_198 @m29_199) (And.intro @m29_202 @m29_204)) (And.intro (And.intro @m29_206 @m29_208) (And.intro @m29_211 @m29_213))) (And.intro (And.intro (And.intro @m29_214u @m29_214i) (And.intro @m29_214g @m29_216)) (And.intro (And.intro @m29_218 @m29_220) (And.intro @m29_223 @m29_225i)))
def own_k29_10:=And.intro (And.intro @m29_227 @m29_230) (And.intro @m29_233 @m29_235)
def own_k29_2:=And.intro (And.intro @m29_40 @m29_41i) (And.intro @m29_43 @m29_44u)
def own_k32_0:=And.intro (And.intro @m32_0 @m32_1) (And.intro @m32_3 @m32_4u)
def own_k32_2:=And.intro (And.intro @m32_42 (And.intro @m32_45 @m32_46)) (And.intro @m32_49 (And.intro @m32_51 @m32_52i))
def own_k32_3:=And.intro (And.intro @m32_56 (And.intro @m32_57 @m32_60)) (And.intro @m32_61u (And.intro @m32_61i @m32_61g))
def own_k32_4:=And.intro (And.intro (And.intro (And.intro @m32_65 @m32_66) (And.intro @m32_69 @m32_70)) (And.intro (And.intro @m32_71 @m32_73) (And.intro @m32_76u @m32_76i))) (And.intro (And.intro (And.intro @m32_76g @m32_78) (And.intro @m32_79 @m32_80)) (And.intro (And.intro @m32_82 @m32_85u) (And.intro @m32_85i @m32_85g)))
def own_k32_5:=And.intro (And.intro (And.intro (And.intro @m32_87 @m32_89) (And.intro @m32_91 @m32_93)) (And.intro (And.intro @m32_96u @m32_96i) (And.intro @m32_96g @m32_98))) (And.intro (And.intro (And.intro @m32_100 @m32_103) (And.intro @m32_106 @m32_109)) (And.intro (And.intro @m32_111 @m32_114) (And.intro @m32_115 @m32_117)))
def own_k32_6:=And.intro (And.intro (And.intro (And.intro @m32_120 @m32_121) (And.intro @m32_122 @m32_123)) (And.intro (And.intro @m32_125 @m32_128) (And.intro @m32_129u @m32_129i))) (And.intro (And.intro (And.intro @m32_129g @m32_131) (And.intro @m32_133 @m32_135)) (And.intro (And.intro @m32_137 @m32_139) (And.intro @m32_142 @m32_145)))
def own_k32_7:=And.intro (And.intro (And.intro @m32_147 @m32_149) (And.intro @m32_151 (And.intro @m32_153 @m32_156))) (And.intro (And.intro @m32_158 (And.intro @m32_161 @m32_164)) (And.intro @m32_167 (And.intro @m32_170 @m32_172)))
def own_k32_1:=And.intro (And.intro (And.intro (And.intro @m32_8 @m32_9) (And.intro @m32_12 @m32_14)) (And.intro (And.intro @m32_16 @m32_18) (And.intro @m32_21 @m32_24))) (And.intro (And.intro (And.intro @m32_26 @m32_29) (And.intro @m32_32 @m32_34)) (And.intro (And.intro @m32_35 @m32_37) (And.intro @m32_40 @m32_41)))
def own_k33_0:=And.intro (And.intro @m33_0 @m33_1) (And.intro @m33_3 @m33_4u)
def own_k33_2:=And.intro (And.intro (And.intro @m33_37 @m33_38) (And.intro @m33_41 (And.intro @m33_42u @m33_42i))) (And.intro (And.intro @m33_42g @m33_44) (And.intro @m33_45u (And.intro @m33_45i @m33_45g)))
def own_k33_3:=And.intro (And.intro (And.intro @m33_49 (And.intro @m33_50 @m33_53)) (And.intro @m33_54 (And.intro @m33_55 @m33_56))) (And.intro (And.intro @m33_58 (And.intro @m33_61 @m33_63)) (And.intro @m33_64u (And.intro @m33_64i @m33_64g)))
def own_k33_4:=And.intro (And.intro (And.intro (And.intro @m33_68 @m33_69) (And.intro @m33_72 @m33_74)) (And.intro (And.intro @m33_76 @m33_78) (And.intro @m33_81u @m33_81i))) (And.intro (And.intro (And.intro @m33_81g @m33_83) (And.intro @m33_85 @m33_88)) (And.intro (And.intro @m33_91 @m33_94) (And.intro @m33_96 @m33_98)))
def own_k33_5:=And.intro (And.intro (And.intro (And.intro @m33_99 @m33_102) (And.intro @m33_103 @m33_104)) (And.intro (And.intro @m33_105u @m33_105i) (And.intro @m33_105g @m33_107))) (And.intro (And.intro (And.intro @m33_110 @m33_112) (And.intro @m33_113 @m33_114)) (And.intro (And.intro @m33_115 @m33_117) (And.intro @m33_118u @m33_118i)))
def own_k33_6:=And.intro (And.intro (And.intro (And.intro @m33_118g @m33_120) (And.intro @m33_122 @m33_123)) (And.intro (And.intro @m33_126 @m33_128) (And.intro @m33_130 @m33_132))) (And.intro (And.intro (And.intro @m33_135 @m33_137) (And.intro @m33_138 @m33_139)) (And.intro (And.intro @m33_140u @m33_140i) (And.intro @m33_140g @m33_142)))
def own_k33_7:=And.intro (And.intro (And.intro (And.intro @m33_144 @m33_146) (And.intro @m33_148 @m33_150)) (And.intro (And.intro @m33_153 @m33_156) (And.intro @m33_158 @m33_160))) (And.intro (And.intro (And.intro @m33_162 @m33_164) (And.intro @m33_167 @m33_169)) (And.intro (And.intro @m33_170i @m33_172) (And.intro @m33_175 @m33_178)))
def own_k33_8:=And.intro @m33_181 (And.intro @m33_184 @m33_185i)
def own_k33_9:=And.intro (And.intro (And.intro (And.intro @m33_189 @m33_190) (And.intro @m33_193 @m33_194)) (And.intro (And.intro @m33_195 @m33_197) (And.intro @m33_200u @m33_200i))) (And.intro (And.intro (And.intro @m33_200g @m33_202) (And.intro @m33_203 @m33_204)) (And.intro (And.intro @m33_206 @m33_209u) (And.intro @m33_209i @m33_209g)))
def own_k33_10:=And.intro (And.intro (And.intro (And.intro @m33_211 @m33_213) (And.intro @m33_215 @m33_217)) (And.intro (And.intro @m33_220 @m33_221) (And.intro @m33_223 @m33_226))) (And.intro (And.intro (And.intro @m33_227u @m33_227i) (And.intro @m33_227g @m33_229)) (And.intro (And.intro @m33_231 @m33_233) (And.intro @m33_235 @m33_237)))
def own_k33_11:=And.intro (And.intro (And.intro (And.intro @m33_240 @m33_243) (And.intro @m33_245 @m33_247)) (And.intro (And.intro @m33_249 @m33_251) (And.intro @m33_254 @m33_256))) (And.intro (And.intro (And.intro @m33_257i @m33_259) (And.intro @m33_262 @m33_265)) (And.intro (And.intro @m33_267 @m33_270) (And.intro @m33_271 @m33_272)))
def own_k33_12:=And.intro @m33_275 (And.intro @m33_278 @m33_279)
def own_k33_1:=And.intro (And.intro (And.intro @m33_8 (And.intro @m33_9 @m33_12)) (And.intro @m33_14 (And.intro @m33_16 @m33_18))) (And.intro (And.intro @m33_21 (And.intro @m33_24 @m33_26)) (And.intro @m33_29 (And.intro @m33_32 @m33_33i)))
def own_k1_0:=And.intro (And.intro (And.intro (And.intro @m1_0 @m1_1) (And.intro @m1_4 @m1_5)) (And.intro (And.intro @m1_6 @m1_9) (And.intro @m1_11 @m1_12))) (And.intro (And.intro (And.intro @m1_13 @m1_16) (And.intro @m1_17 @m1_19)) (And.intro (And.intro @m1_22 @m1_24) (And.intro @m1_25 @m1_26)))
def own_k1_1:=And.intro (And.intro (And.intro (And.intro @m1_29 @m1_31) (And.intro @m1_34 @m1_36)) (And.intro (And.intro @m1_37 @m1_38) (And.intro @m1_41 @m1_42))) (And.intro (And.intro (And.intro @m1_45 @m1_46) (And.intro @m1_47 @m1_48)) (And.intro (And.intro @m1_51 @m1_52) (And.intro @m1_55 @m1_56)))
def own_k1_2:=And.intro (And.intro (And.intro (And.intro @m1_57 @m1_58) (And.intro @m1_61 @m1_62)) (And.intro (And.intro @m1_65 @m1_66) (And.intro @m1_67 @m1_68))) (And.intro (And.intro (And.intro @m1_69 @m1_72) (And.intro @m1_73 @m1_74)) (And.intro (And.intro @m1_77 @m1_78) (And.intro @m1_79 @m1_82)))
def own_k1_3:=And.intro (And.intro @m1_83 (And.intro @m1_84 @m1_87)) (And.intro (And.intro @m1_88 @m1_91) (And.intro @m1_92 @m1_93))
def own_k2_0:=And.intro (And.intro (And.intro (And.intro @m2_0 @m2_1) (And.intro @m2_4 @m2_5)) (And.intro (And.intro @m2_6 @m2_9) (And.intro @m2_12 @m2_13))) (And.intro (And.intro (And.intro @m2_16 @m2_17) (And.intro @m2_18 @m2_21)) (And.intro (And.intro @m2_24 @m2_26) (And.intro @m2_27 @m2_28)))
def own_k2_1:=And.intro (And.intro (And.intro (And.intro @m2_31 @m2_32) (And.intro @m2_34 @m2_37)) (And.intro (And.intro @m2_39 @m2_40) (And.intro @m2_41 @m2_44))) (And.intro (And.intro (And.intro @m2_46 @m2_49) (And.intro @m2_51 @m2_52)) (And.intro (And.intro @m2_53 @m2_56) (And.intro @m2_57 @m2_60)))
def own_k2_2:=And.intro (And.intro (And.intro (And.intro @m2_61 @m2_62) (And.intro @m2_63 @m2_66)) (And.intro (And.intro @m2_67 @m2_70) (And.intro @m2_71 @m2_72))) (And.intro (And.intro (And.intro @m2_73 @m2_76) (And.intro @m2_77 @m2_80)) (And.intro (And.intro @m2_81 @m2_82) (And.intro @m2_83 @m2_84)))
def own_k2_3:=And.intro (And.intro (And.intro @m2_87 (And.intro @m2_88 @m2_89)) (And.intro (And.intro @m2_92 @m2_93) (And.intro @m2_94 @m2_97))) (And.intro (And.intro @m2_98 (And.intro @m2_99 @m2_102)) (And.intro (And.intro @m2_103 @m2_106) (And.intro @m2_107 @m2_108)))
def own_k34_0:=And.intro (And.intro (And.intro @m34_0 (And.intro @m34_1 @m34_2)) (And.intro (And.intro @m34_3 @m34_6) (And.intro @m34_7 @m34_10))) (And.intro (And.intro @m34_11u (And.intro @m34_12 @m34_15)) (And.intro (And.intro @m34_16 @m34_19u) (And.intro @m34_20 @m34_21u)))
def own_k34_1:=And.intro (And.intro (And.intro (And.intro @m34_23 @m34_24) (And.intro @m34_27 @m34_28)) (And.intro (And.intro @m34_29 @m34_30) (And.intro @m34_31 @m34_32))) (And.intro (And.intro (And.intro @m34_33 @m34_34) (And.intro @m34_37 @m34_38)) (And.intro (And.intro @m34_41 @m34_42) (And.intro @m34_43 @m34_46)))
def own_k34_3:=And.intro (And.intro @m34_76 (And.intro @m34_78 @m34_81i)) (And.intro (And.intro @m34_82 @m34_83) (And.intro @m34_85 @m34_86u))
def own_k34_4:=And.intro (And.intro (And.intro (And.intro @m34_90 @m34_91) (And.intro @m34_94 @m34_95)) (And.intro (And.intro @m34_96 @m34_97) (And.intro @m34_99 @m34_102))) (And.intro (And.intro (And.intro @m34_103 @m34_104) (And.intro @m34_106 @m34_109)) (And.intro (And.intro @m34_110 @m34_112) (And.intro @m34_115 @m34_118)))
def own_k34_5:=And.intro (And.intro (And.intro (And.intro @m34_120 @m34_123) (And.intro @m34_124 @m34_125)) (And.intro (And.intro @m34_126 @m34_128) (And.intro @m34_131 @m34_134))) (And.intro (And.intro (And.intro @m34_136 @m34_137) (And.intro @m34_139 @m34_140)) (And.intro (And.intro @m34_141 @m34_143) (And.intro @m34_146 @m34_149)))
def own_k34_6:=And.intro (And.intro (And.intro (And.intro @m34_150 @m34_153i) (And.intro @m34_155 @m34_156)) (And.intro (And.intro @m34_157 @m34_158) (And.intro @m34_160 @m34_163u))) (And.intro (And.intro (And.intro @m34_165 @m34_167) (And.intro @m34_170 @m34_172)) (And.intro (And.intro @m34_174 @m34_177) (And.intro @m34_178 @m34_181)))
def own_k34_7:=And.intro (And.intro (And.intro (And.intro @m34_182 @m34_183) (And.intro @m34_185 @m34_188)) (And.intro (And.intro @m34_189 @m34_190) (And.intro @m34_191 @m34_194))) (And.intro (And.intro (And.intro @m34_195 @m34_198) (And.intro @m34_199 @m34_200)) (And.intro (And.intro @m34_201 @m34_204) (And.intro @m34_206 @m34_209)))
def own_k34_8:=And.intro (And.intro (And.intro (And.intro @m34_210 @m34_211) (And.intro @m34_212 @m34_215)) (And.intro (And.intro @m34_217 @m34_220) (And.intro @m34_221 @m34_224))) (And.intro (And.intro (And.intro @m34_226 @m34_229) (And.intro @m34_231 @m34_233)) (And.intro (And.intro @m34_236 @m34_237) (And.intro @m34_238 @m34_239)))
def own_k34_9:=And.intro (And.intro (And.intro @m34_240 @m34_243) (And.intro @m34_246 @m34_247)) (And.intro (And.intro @m34_248 @m34_249) (And.intro @m34_251 @m34_252u))
def own_k34_10:=And.intro (And.intro (And.intro (And.intro @m34_256 @m34_257) (And.intro @m34_260 @m34_261)) (And.intro (And.intro @m34_263 @m34_266u) (And.intro @m34_266i @m34_266g))) (And.intro (And.intro (And.intro @m34_268 @m34_270) (And.intro @m34_273 @m34_275)) (And.intro (And.intro @m34_276 @m34_278) (And.intro @m34_281 @m34_282)))
def own_k34_11:=And.intro (And.intro (And.intro (And.intro @m34_283 @m34_284) (And.intro @m34_286 @m34_289)) (And.intro (And.intro @m34_292 @m34_293) (And.intro @m34_294 @m34_295))) (And.intro (And.intro (And.intro @m34_296 @m34_298) (And.intro @m34_301 @m34_304)) (And.intro (And.intro @m34_305 @m34_308) (And.intro @m34_309 @m34_310)))
def own_k34_12:=And.intro (And.intro (And.intro (And.intro @m34_312 @m34_315) (And.intro @m34_317 @m34_318)) (And.intro (And.intro @m34_320 @m34_321) (And.intro @m34_322 @m34_324))) (And.intro (And.intro (And.intro @m34_327 @m34_330) (And.intro @m34_331 @m34_332)) (And.intro (And.intro @m34_333 @m34_335) (And.intro @m34_338 @m34_340)))
def own_k34_13:=And.intro (And.intro @m34_343 @m34_344) (And.intro @m34_345 @m34_346i)
def own_k34_14:=And.intro (And.intro (And.intro @m34_350 (And.intro @m34_351 @m34_354)) (And.intro @m34_355 (And.intro @m34_356 @m34_357))) (And.intro (And.intro @m34_359 (And.intro @m34_362 @m34_364)) (And.intro @m34_365u (And.intro @m34_365i @m34_365g)))
def own_k34_15:=And.intro (And.intro (And.intro (And.intro @m34_369 @m34_370) (And.intro @m34_373 @m34_375)) (And.intro (And.intro @m34_377 @m34_379) (And.intro @m34_382u @m34_382i))) (And.intro (And.intro (And.intro @m34_382g @m34_384) (And.intro @m34_385 @m34_387)) (And.intro (And.intro @m34_389 @m34_392u) (And.intro @m34_392i @m34_392g)))
def own_k34_16:=And.intro (And.intro (And.intro (And.intro @m34_394 @m34_395) (And.intro @m34_397 @m34_399)) (And.intro (And.intro @m34_402u @m34_402i) (And.intro @m34_402g @m34_404))) (And.intro (And.intro (And.intro @m34_406 @m34_409) (And.intro @m34_412 @m34_414)) (And.intro (And.intro @m34_415 @m34_418) (And.intro @m34_420 @m34_421)))
def own_k34_17:=And.intro (And.intro (And.intro (And.intro @m34_424 @m34_425) (And.intro @m34_426 @m34_428)) (And.intro (And.intro @m34_430 @m34_431) (And.intro @m34_434 @m34_435))) (And.intro (And.intro (And.intro @m34_436 @m34_437u) (And.intro @m34_437i @m34_437g)) (And.intro (And.intro @m34_439 @m34_441) (And.intro @m34_443 @m34_446)))
def own_k34_18:=And.intro (And.intro (And.intro (And.intro @m34_448 @m34_451) (And.intro @m34_453 @m34_454)) (And.intro (And.intro @m34_455 @m34_456) (And.intro @m34_458 @m34_459))) (And.intro (And.intro (And.intro @m34_462 @m34_463) (And.intro @m34_464 @m34_467)) (And.intro (And.intro @m34_470 @m34_473) (And.intro @m34_476 @m34_477)))
def own_k34_19:=And.intro (And.intro (And.intro @m34_478 @m34_479) (And.intro @m34_481 (And.intro @m34_482 @m34_483))) (And.intro (And.intro @m34_486 @m34_489) (And.intro @m34_490 (And.intro @m34_493 @m34_494)))
def own_k34_2:=And.intro (And.intro (And.intro (And.intro @m34_47 @m34_48) (And.intro @m34_49 @m34_50)) (And.intro (And.intro @m34_51 @m34_52) (And.intro @m34_55 @m34_58))) (And.intro (And.intro (And.intro @m34_59 @m34_62) (And.intro @m34_63 @m34_64)) (And.intro (And.intro @m34_67 @m34_70) (And.intro @m34_71 @m34_73)))
def own_k14_0:=And.intro @m14_0 (And.intro @m14_1 @m14_4)
def own_k15_0:=And.intro (And.intro (And.intro @m15_0 @m15_1) (And.intro @m15_4 @m15_7)) (And.intro (And.intro @m15_9 @m15_10) (And.intro @m15_11 @m15_14))
def own_k16_0:=And.intro (And.intro (And.intro @m16_0 @m16_1) (And.intro @m16_4 @m16_7)) (And.intro (And.intro @m16_9 @m16_10) (And.intro @m16_11 @m16_14))
def own_k17_0:=And.intro (And.intro (And.intro @m17_0 @m17_1) (And.intro @m17_4 @m17_7)) (And.intro (And.intro @m17_9 @m17_10) (And.intro @m17_11 @m17_14))
def own_k18_0:=And.intro (And.intro (And.intro (And.intro @m18_0 @m18_1) (And.intro @m18_4 @m18_7)) (And.intro (And.intro @m18_8 @m18_11) (And.intro @m18_12 @m18_13))) (And.intro (And.intro (And.intro @m18_16 @m18_19) (And.intro @m18_21 @m18_22)) (And.intro (And.intro @m18_23 @m18_26) (And.intro @m18_27 @m18_28)))
def own_k19_0:=And.intro (And.intro (And.intro (And.intro @m19_0 @m19_1) (And.intro @m19_4 @m19_7)) (And.intro (And.intro @m19_9 @m19_10) (And.intro @m19_11 @m19_14))) (And.intro (And.intro (And.intro @m19_15 @m19_16) (And.intro @m19_19 @m19_22)) (And.intro (And.intro @m19_24 @m19_25) (And.intro @m19_26 @m19_29)))
def own_k20_0:=And.intro (And.intro (And.intro (And.intro @m20_0 @m20_1) (And.intro @m20_2 @m20_3)) (And.intro (And.intro @m20_6u @m20_7) (And.intro @m20_8 @m20_11))) (And.intro (And.intro (And.intro @m20_12 @m20_13) (And.intro @m20_14 @m20_17)) (And.intro (And.intro @m20_18 @m20_20) (And.intro @m20_21 @m20_22)))
def own_k21_0:=And.intro (And.intro (And.intro (And.intro @m21_0 @m21_1) (And.intro @m21_4 @m21_7)) (And.intro (And.intro @m21_9 @m21_10) (And.intro @m21_11 @m21_14))) (And.intro (And.intro (And.intro @m21_15 @m21_16) (And.intro @m21_19 @m21_22)) (And.intro (And.intro @m21_23 @m21_26) (And.intro @m21_27 @m21_28)))
def own_k21_1:=And.intro (And.intro (And.intro (And.intro @m21_31 @m21_34) (And.intro @m21_36 @m21_37)) (And.intro (And.intro @m21_38 @m21_41) (And.intro @m21_42 @m21_44))) (And.intro (And.intro (And.intro @m21_45 @m21_46) (And.intro @m21_47 @m21_48)) (And.intro (And.intro @m21_51 @m21_52) (And.intro @m21_53 @m21_54)))
def own_k22_0:=And.intro (And.intro (And.intro (And.intro @m22_0 @m22_1) (And.intro @m22_2 @m22_3)) (And.intro (And.intro @m22_6u @m22_7) (And.intro @m22_8 @m22_11))) (And.intro (And.intro (And.intro @m22_12 @m22_13) (And.intro @m22_14 @m22_17)) (And.intro (And.intro @m22_18 @m22_20) (And.intro @m22_21 @m22_22)))
def own_k22_1:=And.intro (And.intro @m22_23 (And.intro @m22_24 @m22_25)) (And.intro (And.intro @m22_28 @m22_29) (And.intro @m22_30 @m22_31))
def own_k0_0:=And.intro (And.intro (And.intro (And.intro @m0_0 @m0_1) (And.intro @m0_4 @m0_5)) (And.intro (And.intro @m0_12 @m0_13) (And.intro @m0_20 @m0_21))) (And.intro (And.intro (And.intro @m0_28 @m0_29) (And.intro @m0_36 @m0_37)) (And.intro (And.intro @m0_44 @m0_45) (And.intro @m0_52 @m0_53)))
def own_k0_1:=And.intro (And.intro (And.intro (And.intro @m0_60 @m0_61) (And.intro @m0_68 @m0_69)) (And.intro (And.intro @m0_76 @m0_77) (And.intro @m0_85 @m0_86))) (And.intro (And.intro (And.intro @m0_94 @m0_95) (And.intro @m0_103 @m0_104)) (And.intro (And.intro @m0_111 @m0_112) (And.intro @m0_119 @m0_120)))
def own_k0_2:=And.intro (And.intro (And.intro (And.intro @m0_127 @m0_128) (And.intro @m0_135 @m0_136)) (And.intro (And.intro @m0_143 @m0_144) (And.intro @m0_152 @m0_153))) (And.intro (And.intro (And.intro @m0_154 @m0_157) (And.intro @m0_158 @m0_159)) (And.intro (And.intro @m0_162 @m0_163) (And.intro @m0_164 @m0_167)))
def own_k0_3:=And.intro (And.intro @m0_168 (And.intro @m0_169 @m0_172)) (And.intro @m0_173 (And.intro @m0_174 @m0_177))
def nI (n : Nat) : Int32:=Nat.toInt32 n
theorem nI_int {n : Nat} (h : n < 2147483648) : (nI n).toInt = n:=len_toInt h
theorem nI_cl {n : Nat} (h : n < 2147483648) : (nI n).toNatClampNeg = n:=by rw [toNat_eq,nI_int h]; rfl
theorem nI_add (a c : Nat) : nI a + nI c = nI (a + c):=(Int32.ofNat_add a c).symm
theorem nI_1 (a : Nat) : nI a + 1 = nI (a + 1):=nI_add a 1
theorem nI_sub {a c : Nat} (h : c≤a) : nI a - nI c = nI (a - c):=by
  have e : nI a = nI (a - c) + nI c:=by rw [nI_add,Nat.sub_add_cancel h]
  rw [e,Int32.add_sub_cancel]
theorem nI_32 (v : Nat) : nI v * 32 = nI (v * 32):=(Int32.ofNat_mul v 32).symm
theorem nI_lt {a c : Nat} (ha : a < 2147483648) (hc : c < 2147483648) : nI a < nI c ↔ a < c:=by
  rw [lt_i,nI_int ha,nI_int hc]
  omega
theorem nI_nn {a : Nat} (ha : a < 2147483648) : ¬ nI a < 0:=by
  rw [nn_i,nI_int ha]
  omega
theorem nI_inj {a c : Nat} (ha : a < 2147483648) (hc : c < 2147483648) : nI a = nI c ↔ a = c:=by
  constructor
  · intro h
    have:=congrArg Int32.toInt h
    rw [nI_int ha,nI_int hc] at this
    omega
  · intro h; rw [h]
theorem nI_ne {a c : Nat} (ha : a < 2147483648) (hc : c < 2147483648) (h : a ≠ c) : ¬ nI a = nI c:=fun e => h ((nI_inj ha hc).mp e)
theorem nI_in {l : List Int32} {i : Nat} (h : i < l.length) (hl : l.length≤4096) : inB (nI i) l:=by
  rw [inB_iff,nI_int (by omega)]
  omega
theorem lT {a c : Nat} (h : a < c) (hc : c < 2147483648) : (nI a < nI c) = True:=eq_true ((nI_lt (by omega) hc).mpr h)
theorem lF {a c : Nat} (h : c≤a) (ha : a < 2147483648) : (nI a < nI c) = False:=eq_false (fun q => by rw [nI_lt ha (by omega)] at q; omega)
theorem cf_set {l : List Int32} {i j : Nat} {x : Int32} (hj : j < l.length) (hl : l.length≤4096) (hi : i < 4096) : getA (setA l (nI j) x) (nI i) = if i = j then x else getA l (nI i):=by
  rw [getA_set2,nI_cl (by omega),nI_cl (by omega)]
  simp [hj]
def CF (l : List Int32) (f : Nat→Int32) (k : Nat) : Prop:=∀ i,i < k→getA l (nI i) = f i
def CN (l : List Int32) (f : Nat→Nat) (k : Nat) : Prop:=∀ i,i < k→getA l (nI i) = nI (f i)
section Cells
variable {l : List Int32} {f : Nat→Int32} {g : Nat→Nat} {k j w : Nat} {x : Int32}
theorem CF_set (h : CF l f k) (hj : j < l.length) (hl : l.length≤4096) (hk : k≤4096) : CF (setA l (nI j) x) (ou f j x) k:=by
  intro i hi
  rw [cf_set hj hl (by omega),ou_a]
  split
  · rfl
  · exact h i hi
theorem CF_push (h : CF l f k) (hk : k < l.length) (hl : l.length≤4096) : CF (setA l (nI k) x) (ou f k x) (k + 1):=by
  intro i hi
  rw [cf_set hk hl (by omega),ou_a]
  split
  · rfl
  · exact h i (by omega)
theorem CN_set (h : CN l g k) (hj : j < l.length) (hl : l.length≤4096) (hk : k≤4096) : CN (setA l (nI j) (nI w)) (ou g j w) k:=by
  intro i hi
  rw [cf_set hj hl (by omega),ou_a]
  split
  · rfl
  · exact h i hi
theorem CN_push (h : CN l g k) (hk : k < l.length) (hl : l.length≤4096) : CN (setA l (nI k) (nI w)) (ou g k w) (k + 1):=by
  intro i hi
  rw [cf_set hk hl (by omega),ou_a]
  split
  · rfl
  · exact h i (by omega)
end Cells
theorem okS_n (n : Nat) : okS (.val (.int (nI n))):=okS_i _
def LN (A : Nat→List Int32) : Prop:=∀ i,(A i).length = (A0 i).length
theorem LN_ou {A : Nat→List Int32} {j : Nat} {l : List Int32} (h : LN A) (hl : l.length = (A0 j).length) : LN (ou A j l):=len_ou h hl
theorem LN_set {A : Nat→List Int32} {j : Nat} {x v : Int32} (h : LN A) : LN (ou A j (setA (A j) x v)):=LN_ou h (by rw [setA_len]; exact h _)
theorem ln0 {A : Nat→List Int32} (h : LN A) : (A 0).length = 32:=(h 0).trans A0l_0
theorem in0 {A : Nat→List Int32} {i : Nat} (h : LN A) (hi : i < 32) : inB (nI i) (A 0):=nI_in (by rw [ln0 h]; exact hi) (by rw [ln0 h]; decide)
theorem ln1 {A : Nat→List Int32} (h : LN A) : (A 1).length = 32:=(h 1).trans A0l_1
theorem in1 {A : Nat→List Int32} {i : Nat} (h : LN A) (hi : i < 32) : inB (nI i) (A 1):=nI_in (by rw [ln1 h]; exact hi) (by rw [ln1 h]; decide)
theorem ln2 {A : Nat→List Int32} (h : LN A) : (A 2).length = 32:=(h 2).trans A0l_2
theorem in2 {A : Nat→List Int32} {i : Nat} (h : LN A) (hi : i < 32) : inB (nI i) (A 2):=nI_in (by rw [ln2 h]; exact hi) (by rw [ln2 h]; decide)
theorem ln3 {A : Nat→List Int32} (h : LN A) : (A 3).length = 64:=(h 3).trans A0l_3
theorem in3 {A : Nat→List Int32} {i : Nat} (h : LN A) (hi : i < 64) : inB (nI i) (A 3):=nI_in (by rw [ln3 h]; exact hi) (by rw [ln3 h]; decide)
theorem ln4 {A : Nat→List Int32} (h : LN A) : (A 4).length = 64:=(h 4).trans A0l_4
theorem in4 {A : Nat→List Int32} {i : Nat} (h : LN A) (hi : i < 64) : inB (nI i) (A 4):=nI_in (by rw [ln4 h]; exact hi) (by rw [ln4 h]; decide)
theorem ln5 {A : Nat→List Int32} (h : LN A) : (A 5).length = 64:=(h 5).trans A0l_5
theorem in5 {A : Nat→List Int32} {i : Nat} (h : LN A) (hi : i < 64) : inB (nI i) (A 5):=nI_in (by rw [ln5 h]; exact hi) (by rw [ln5 h]; decide)
theorem ln6 {A : Nat→List Int32} (h : LN A) : (A 6).length = 64:=(h 6).trans A0l_6
theorem in6 {A : Nat→List Int32} {i : Nat} (h : LN A) (hi : i < 64) : inB (nI i) (A 6):=nI_in (by rw [ln6 h]; exact hi) (by rw [ln6 h]; decide)
theorem ln7 {A : Nat→List Int32} (h : LN A) : (A 7).length = 32:=(h 7).trans A0l_7
theorem in7 {A : Nat→List Int32} {i : Nat} (h : LN A) (hi : i < 32) : inB (nI i) (A 7):=nI_in (by rw [ln7 h]; exact hi) (by rw [ln7 h]; decide)
theorem ln8 {A : Nat→List Int32} (h : LN A) : (A 8).length = 64:=(h 8).trans A0l_8
theorem in8 {A : Nat→List Int32} {i : Nat} (h : LN A) (hi : i < 64) : inB (nI i) (A 8):=nI_in (by rw [ln8 h]; exact hi) (by rw [ln8 h]; decide)
theorem ln9 {A : Nat→List Int32} (h : LN A) : (A 9).length = 1024:=(h 9).trans A0l_9
theorem in9 {A : Nat→List Int32} {i : Nat} (h : LN A) (hi : i < 1024) : inB (nI i) (A 9):=nI_in (by rw [ln9 h]; exact hi) (by rw [ln9 h]; decide)
theorem ln10 {A : Nat→List Int32} (h : LN A) : (A 10).length = 1024:=(h 10).trans A0l_10
theorem in10 {A : Nat→List Int32} {i : Nat} (h : LN A) (hi : i < 1024) : inB (nI i) (A 10):=nI_in (by rw [ln10 h]; exact hi) (by rw [ln10 h]; decide)
theorem ln11 {A : Nat→List Int32} (h : LN A) : (A 11).length = 1024:=(h 11).trans A0l_11
theorem in11 {A : Nat→List Int32} {i : Nat} (h : LN A) (hi : i < 1024) : inB (nI i) (A 11):=nI_in (by rw [ln11 h]; exact hi) (by rw [ln11 h]; decide)
theorem ln12 {A : Nat→List Int32} (h : LN A) : (A 12).length = 32:=(h 12).trans A0l_12
theorem in12 {A : Nat→List Int32} {i : Nat} (h : LN A) (hi : i < 32) : inB (nI i) (A 12):=nI_in (by rw [ln12 h]; exact hi) (by rw [ln12 h]; decide)
theorem ln13 {A : Nat→List Int32} (h : LN A) : (A 13).length = 32:=(h 13).trans A0l_13
theorem in13 {A : Nat→List Int32} {i : Nat} (h : LN A) (hi : i < 32) : inB (nI i) (A 13):=nI_in (by rw [ln13 h]; exact hi) (by rw [ln13 h]; decide)
theorem ln14 {A : Nat→List Int32} (h : LN A) : (A 14).length = 32:=(h 14).trans A0l_14
theorem in14 {A : Nat→List Int32} {i : Nat} (h : LN A) (hi : i < 32) : inB (nI i) (A 14):=nI_in (by rw [ln14 h]; exact hi) (by rw [ln14 h]; decide)
theorem ln15 {A : Nat→List Int32} (h : LN A) : (A 15).length = 32:=(h 15).trans A0l_15
theorem in15 {A : Nat→List Int32} {i : Nat} (h : LN A) (hi : i < 32) : inB (nI i) (A 15):=nI_in (by rw [ln15 h]; exact hi) (by rw [ln15 h]; decide)
theorem ln16 {A : Nat→List Int32} (h : LN A) : (A 16).length = 32:=(h 16).trans A0l_16
theorem in16 {A : Nat→List Int32} {i : Nat} (h : LN A) (hi : i < 32) : inB (nI i) (A 16):=nI_in (by rw [ln16 h]; exact hi) (by rw [ln16 h]; decide)
theorem ln17 {A : Nat→List Int32} (h : LN A) : (A 17).length = 1024:=(h 17).trans A0l_17
theorem in17 {A : Nat→List Int32} {i : Nat} (h : LN A) (hi : i < 1024) : inB (nI i) (A 17):=nI_in (by rw [ln17 h]; exact hi) (by rw [ln17 h]; decide)
/-! the engine as a plain model: arrays as functions -/
def tpI (x : Nat→Int32) (dst : Nat→Nat) : Nat→Nat→(Nat→Int32)→(Nat→Int32)
  | 0,_,d => d
  | r + 1,e,d => tpI x dst r (e + 1) (if x e = 0 then ou d (dst e) (d (dst e) + 1) else d)
abbrev TQ : Type:=(Nat→Nat) × Nat
def tpQ (d : Nat→Int32) : Nat→Nat→TQ→TQ
  | 0,_,q => q
  | r + 1,v,q => tpQ d r (v + 1) (if d v = 0∧q.2 < 32 then (ou q.1 q.2 v,q.2 + 1) else q)
abbrev TS : Type:=(Nat→Int32) × TQ
/-- one edge, seen from u -/
def tp1 (x : Nat→Int32) (src dst : Nat→Nat) (u e : Nat) (s : TS) : TS :=
  if src e = u∧x e = 0 then (ou s.1 (dst e) (s.1 (dst e) - 1),if s.1 (dst e) - 1 = 0∧s.2.2 < 32 then (ou s.2.1 s.2.2 (dst e),s.2.2 + 1) else s.2) else s
def tpE (x : Nat→Int32) (src dst : Nat→Nat) (u : Nat) : Nat→Nat→TS→TS
  | 0,_,s => s
  | r + 1,e,s => tpE x src dst u r (e + 1) (tp1 x src dst u e s)
def tpH (x : Nat→Int32) (src dst : Nat→Nat) (m : Nat) : Nat→Nat→TS→TS
  | 0,_,s => s
  | f + 1,h,s => if h < s.2.2 then tpH x src dst m f (h + 1) (tpE x src dst (s.2.1 h) m 0 s) else s
def topo (n m : Nat) (x : Nat→Int32) (src dst : Nat→Nat) (o : Nat→Nat) : TQ :=
  (tpH x src dst m 32 0 (tpI x dst m 0 (fun _ => 0),tpQ (tpI x dst m 0 (fun _ => 0)) n 0 (o,0))).2
/-- period -/
def peE (x vdel arr : Nat→Int32) (src dst : Nat→Nat) (v : Nat) : Nat→Nat→Int32→Int32
  | 0,_,a => a
  | r + 1,e,a => peE x vdel arr src dst v r (e + 1) (if dst e = v∧x e = 0 then (if a < arr (src e) + vdel v then arr (src e) + vdel v else a) else a)
def peI (m : Nat) (x vdel : Nat→Int32) (src dst o : Nat→Nat) : Nat→Nat→(Nat→Int32) × Int32→(Nat→Int32) × Int32
  | 0,_,s => s
  | r + 1,i,s => peI m x vdel src dst o r (i + 1) (ou s.1 (o i) (peE x vdel s.1 src dst (o i) m 0 (vdel (o i))),if s.2 < peE x vdel s.1 src dst (o i) m 0 (vdel (o i)) then peE x vdel s.1 src dst (o i) m 0 (vdel (o i)) else s.2)
/-- pairs: reach, wt, dd at i * 32 + j -/
abbrev PR : Type:=(Nat→Bool) × (Nat→Int32) × (Nat→Int32)
def off (i : Nat) (w y : Int32) (r : PR) : PR :=
  if r.1 i = false ∨ w < r.2.1 i ∨ (w = r.2.1 i∧r.2.2 i < y) then (ou r.1 i true,ou r.2.1 i w,ou r.2.2 i y) else r
def cpD : Nat→Nat→PR→PR
  | 0,_,r => r
  | k + 1,i,r => cpD k (i + 1) (ou r.1 (i * 32 + i) true,ou r.2.1 (i * 32 + i) 0,ou r.2.2 (i * 32 + i) 0)
def cpE (reg vdel : Nat→Int32) (src dst : Nat→Nat) : Nat→Nat→PR→PR
  | 0,_,r => r
  | k + 1,e,r => cpE reg vdel src dst k (e + 1) (off (src e * 32 + dst e) (reg e) (vdel (src e)) r)
def rvJ (k i : Nat) : Nat→Nat→PR→PR
  | 0,_,r => r
  | c + 1,j,r => rvJ k i c (j + 1) (if r.1 (k * 32 + j) = true then off (i * 32 + j) (r.2.1 (i * 32 + k) + r.2.1 (k * 32 + j)) (r.2.2 (i * 32 + k) + r.2.2 (k * 32 + j)) r else r)
def rvI (n k : Nat) : Nat→Nat→PR→PR
  | 0,_,r => r
  | c + 1,i,r => rvI n k c (i + 1) (if r.1 (i * 32 + k) = true then rvJ k i n 0 r else r)
def cpV (n : Nat) : Nat→Nat→PR→PR
  | 0,_,r => r
  | c + 1,k,r => cpV n c (k + 1) (rvI n k n 0 r)
def pairs (n m : Nat) (reg vdel : Nat→Int32) (src dst : Nat→Nat) : PR:=cpV n n 0 (cpE reg vdel src dst m 0 (cpD n 0 (fun _ => false,fun _ => 0,fun _ => 0)))
/-- one pass: dist, changed -/
abbrev DC : Type:=(Nat→Int32) × Bool
def rpE (reg : Nat→Int32) (src dst : Nat→Nat) : Nat→Nat→DC→DC
  | 0,_,s => s
  | k + 1,e,s => rpE reg src dst k (e + 1) (if s.1 (dst e) + reg e < s.1 (src e) then (ou s.1 (src e) (s.1 (dst e) + reg e),true) else s)
def rpV (r : PR) (vdel : Nat→Int32) (c : Int32) (u : Nat) : Nat→Nat→DC→DC
  | 0,_,s => s
  | k + 1,v,s => rpV r vdel c u k (v + 1) (if r.1 (u * 32 + v) = true∧c < r.2.2 (u * 32 + v) + vdel v then (if s.1 v + r.2.1 (u * 32 + v) - 1 < s.1 u then (ou s.1 u (s.1 v + r.2.1 (u * 32 + v) - 1),true) else s) else s)
def rpU (n : Nat) (r : PR) (vdel : Nat→Int32) (c : Int32) : Nat→Nat→DC→DC
  | 0,_,s => s
  | k + 1,u,s => rpU n r vdel c k (u + 1) (rpV r vdel c u n 0 s)
def rpass (n m : Nat) (reg vdel : Nat→Int32) (src dst : Nat→Nat) (r : PR) (c : Int32) (d : Nat→Int32) : DC:=rpU n r vdel c n 0 (rpE reg src dst m 0 (d,false))
def feaL (n m : Nat) (reg vdel : Nat→Int32) (src dst : Nat→Nat) (r : PR) (c : Int32) : Nat→(Nat→Int32)→DC
  | 0,d => (d,false)
  | f + 1,d => if (rpass n m reg vdel src dst r c d).2 = true then feaL n m reg vdel src dst r c f (rpass n m reg vdel src dst r c d).1 else ((rpass n m reg vdel src dst r c d).1,true)
def feas (n m : Nat) (reg vdel : Nat→Int32) (src dst : Nat→Nat) (r : PR) (c : Int32) : DC:=feaL n m reg vdel src dst r c (n + 2) (fun _ => 0)
def smin (fe : Int32→Bool) : Nat→Int32→Int32→Int32
  | 0,lo,_ => lo
  | f + 1,lo,hi => if lo < hi then (if fe (lo + (hi - lo) / 2) = true then smin fe f lo (lo + (hi - lo) / 2) else smin fe f (lo + (hi - lo) / 2 + 1) hi) else lo
/-- value of a vertex -/
def evE (op : Int32) (x : Nat→Int32) (src dst : Nat→Nat) (sv : Nat→Int32) (v t : Nat) : Nat→Nat→Int32→Int32
  | 0,_,a => a
  | k + 1,e,a => evE op x src dst sv v t k (e + 1) (if dst e = v then (if op = 1 then a + (if nI t - x e < 0 then 0 else sv (src e * 32 + (nI t - x e).toNatClampNeg)) else if op = 2 then a ^^^ (if nI t - x e < 0 then 0 else sv (src e * 32 + (nI t - x e).toNatClampNeg)) else a &&& (if nI t - x e < 0 then 0 else sv (src e * 32 + (nI t - x e).toNatClampNeg))) else a)
def evV (m : Nat) (vop vk inp x : Nat→Int32) (src dst : Nat→Nat) (sv : Nat→Int32) (v t : Nat) : Int32:=if vop v = 0 then inp t else evE (vop v) x src dst sv v t m 0 (vk v)
def siI (m : Nat) (vop vk inp x : Nat→Int32) (src dst o : Nat→Nat) (t : Nat) : Nat→Nat→(Nat→Int32)→(Nat→Int32)
  | 0,_,sv => sv
  | k + 1,i,sv => siI m vop vk inp x src dst o t k (i + 1) (ou sv (o i * 32 + t) (evV m vop vk inp x src dst sv (o i) t))
/-- sval, outs -/
def siT (n m : Nat) (vop vk inp x : Nat→Int32) (src dst o : Nat→Nat) (c : Nat) : Nat→Nat→(Nat→Int32) × (Nat→Int32)→(Nat→Int32) × (Nat→Int32)
  | 0,_,s => s
  | k + 1,t,s => siT n m vop vk inp x src dst o c k (t + 1) (siI m vop vk inp x src dst o t n 0 s.1,ou s.2 (c * 32 + t) (siI m vop vk inp x src dst o t n 0 s.1 ((n - 1) * 32 + t)))
/-! Kahn's order -/
theorem PH : ∀ (n t : Nat) (o : Nat→Nat),(∀ i,i < t→o i < n)→(∀ i j,i < t→j < t→o i = o j→i = j)→t≤n:=by
  intro n
  induction n with
  | zero =>
    intro t o h1 h2
    rcases Nat.eq_zero_or_pos t with h | h
    · omega
    · exact absurd (h1 0 h) (by omega)
  | succ n ih =>
    intro t o h1 h2
    by_cases c : ∃ i,i < t∧o i = n
    · obtain ⟨k,hk,ek⟩:=c
      have:=ih (t - 1) (fun i => if i < k then o i else o (i + 1)) (fun i hi => by
        show (if i < k then o i else o (i + 1)) < n
        split
        · rename_i q
          have a:=h1 i (by omega)
          have : o i ≠ n:=fun z => by have:=h2 i k (by omega) hk (by rw [z,ek]); omega
          omega
        · rename_i q
          have a:=h1 (i + 1) (by omega)
          have : o (i + 1) ≠ n:=fun z => by have:=h2 (i + 1) k (by omega) hk (by rw [z,ek]); omega
          omega) (fun i j hi hj e => by
        have e' : (if i < k then o i else o (i + 1)) = (if j < k then o j else o (j + 1)):=e
        split at e' <;> split at e' <;> have:=h2 _ _ (by omega) (by omega) e' <;> omega)
      omega
    · have:=ih t o (fun i hi => by
        have a:=h1 i hi
        have : o i ≠ n:=fun z => c ⟨i,hi,z⟩
        omega) h2
      omega
theorem PHs {n : Nat} {o : Nat→Nat} (h1 : ∀ i,i < n→o i < n) (h2 : ∀ i j,i < n→j < n→o i = o j→i = j) (v : Nat) (hv : v < n) : ∃ j,j < n∧o j = v:=by
  by_cases c : ∃ j,j < n∧o j = v
  · exact c
  · have:=PH n (n + 1) (fun i => if i < n then o i else v) (fun i hi => by
      show (if i < n then o i else v) < n
      split
      · exact h1 i (by assumption)
      · exact hv) (fun i j hi hj e => by
      have e' : (if i < n then o i else v) = (if j < n then o j else v):=e
      split at e' <;> split at e'
      · exact h2 i j (by assumption) (by assumption) e'
      · exact absurd ⟨i,by assumption,e'⟩ c
      · exact absurd ⟨j,by assumption,e'.symm⟩ c
      · omega)
    omega
/-- how many numbers below k satisfy p -/
def cB (p : Nat→Bool) : Nat→Nat
  | 0 => 0
  | k + 1 => cB p k + (if p k = true then 1 else 0)
theorem cB_le (p : Nat→Bool) : ∀ k,cB p k≤k:=by
  intro k
  induction k with
  | zero => exact Nat.le_refl _
  | succ k ih => rw [cB]; split <;> omega
theorem cB_ext {p q : Nat→Bool} : ∀ k,(∀ i,i < k→p i = q i)→cB p k = cB q k:=by
  intro k
  induction k with
  | zero => intro _; rfl
  | succ k ih => intro h; rw [cB,cB,ih (fun i hi => h i (by omega)),h k (by omega)]
theorem cB_0 {p : Nat→Bool} : ∀ k,cB p k = 0→∀ i,i < k→p i = false:=by
  intro k
  induction k with
  | zero => intro _ i hi; omega
  | succ k ih =>
    intro h i hi
    rw [cB] at h
    by_cases e : i = k
    · subst e
      cases q : p i
      · rfl
      · rw [q] at h; simp at h
    · exact ih (by omega) i (by omega)
/-- one element less -/
theorem cB_rm {p : Nat→Bool} {e : Nat} : ∀ k,e < k→p e = true→cB p k = cB (fun i => p i && decide (i ≠ e)) k + 1:=by
  intro k
  induction k with
  | zero => intro h; omega
  | succ k ih =>
    intro h hp
    rw [cB,cB]
    by_cases c : k = e
    · subst c
      rw [hp,cB_ext (p:=p) (q:=fun i => p i && decide (i ≠ k)) k (fun i hi => by
        have : i ≠ k:=by omega
        simp [this])]
      simp
    · rw [ih (by omega) hp]
      have : (p k && decide (k ≠ e)) = p k:=by simp [c]
      simp only [this]
      omega
def inP (o : Nat→Nat) : Nat→Nat→Bool
  | 0,_ => false
  | h + 1,v => inP o h v || decide (o h = v)
theorem inP_iff {o : Nat→Nat} {v : Nat} : ∀ h,inP o h v = true ↔ ∃ j,j < h∧o j = v:=by
  intro h
  induction h with
  | zero => simp [inP]
  | succ h ih =>
    rw [inP,Bool.or_eq_true,ih,decide_eq_true_eq]
    constructor
    · rintro (⟨j,hj,e⟩ | e)
      · exact ⟨j,by omega,e⟩
      · exact ⟨h,by omega,e⟩
    · rintro ⟨j,hj,e⟩
      by_cases c : j = h
      · exact Or.inr (c ▸ e)
      · exact Or.inl ⟨j,by omega,e⟩
theorem inP_ou {o : Nat→Nat} {v t w : Nat} : ∀ h,h≤t→inP (ou o t w) h v = inP o h v:=by
  intro h
  induction h with
  | zero => intro _; rfl
  | succ h ih =>
    intro hh
    rw [inP,inP,ih (by omega),ou_a,if_neg (by omega)]
/-- edge e' into v still counts: h processed, u in hand up to e -/
def rem (x : Nat→Int32) (src dst o : Nat→Nat) (h u e v e' : Nat) : Bool:=decide (x e' = 0) && decide (dst e' = v) && !(inP o h (src e')) && !(decide (src e' = u) && decide (e' < e))
section Kahn
variable {n m : Nat} {x : Nat→Int32} {src dst : Nat→Nat}
def JK (n m : Nat) (x : Nat→Int32) (src dst : Nat→Nat) (h u e : Nat) (s : TS) : Prop :=
  s.2.2≤n∧(∀ i,i < s.2.2→s.2.1 i < n)∧(∀ i j,i < s.2.2→j < s.2.2→s.2.1 i = s.2.1 j→i = j) ∧
  (∀ v,v < n→s.1 v = nI (cB (rem x src dst s.2.1 h u e v) m)) ∧
  (∀ v,v < n→((∃ i,i < s.2.2∧s.2.1 i = v) ↔ cB (rem x src dst s.2.1 h u e v) m = 0)) ∧
  (∀ i e',i < s.2.2→e' < m→x e' = 0→dst e' = s.2.1 i→∃ j,j < i∧s.2.1 j = src e')
theorem JK_1 (hn : n≤32) (hm : m≤64) (hsd : ∀ e,e < m→src e < n∧dst e < n) {h e : Nat} {s : TS} (hh : h < s.2.2) (he : e < m) (hJ : JK n m x src dst h (s.2.1 h) e s) : JK n m x src dst h (s.2.1 h) (e + 1) (tp1 x src dst (s.2.1 h) e s)∧(tp1 x src dst (s.2.1 h) e s).2.1 h = s.2.1 h∧s.2.2≤(tp1 x src dst (s.2.1 h) e s).2.2:=by
  obtain ⟨j1,j2,j3,j4,j5,j6⟩:=hJ
  generalize hu : s.2.1 h = u at *
  by_cases c : src e = u∧x e = 0
  · have hnin : inP s.2.1 h u = false:=by
      cases q : inP s.2.1 h u
      · rfl
      · obtain ⟨j,hj,ej⟩:=(inP_iff h).mp q
        have:=j3 j h (by omega) hh (by rw [ej,hu])
        omega
    have hv:=(hsd e he).2
    generalize hd : dst e = v at *
    have re : rem x src dst s.2.1 h u e v e = true:=by
      unfold rem
      rw [c.1,hnin]
      simp [c.2,hd]
    have hR:=cB_rm (p:=rem x src dst s.2.1 h u e v) m he re
    have hext : ∀ w,w ≠ v→cB (rem x src dst s.2.1 h u (e + 1) w) m = cB (rem x src dst s.2.1 h u e w) m:=fun w hw => cB_ext m (fun i hi => by
      unfold rem
      by_cases z : i = e
      · subst z
        have : ¬ dst i = w:=fun q => hw (by rw [← q,hd])
        simp [this]
      · have : (i < e + 1) = (i < e):=propext (by omega)
        simp only [this])
    have hexv : cB (rem x src dst s.2.1 h u (e + 1) v) m = cB (fun i => rem x src dst s.2.1 h u e v i && decide (i ≠ e)) m:=cB_ext m (fun i hi => by
      unfold rem
      by_cases z : i = e
      · subst z
        simp [c.1]
      · have : (i < e + 1) = (i < e):=propext (by omega)
        simp [this,z])
    have hcm:=cB_le (rem x src dst s.2.1 h u (e + 1) v) m
    have dv : s.1 v - 1 = nI (cB (rem x src dst s.2.1 h u (e + 1) v) m):=by
      rw [j4 v hv,hR,hexv]
      exact nI_sub (c:=1) (by omega)
    have nin : ¬ ∃ i,i < s.2.2∧s.2.1 i = v:=fun q => by have:=(j5 v hv).mp q; omega
    by_cases z : cB (rem x src dst s.2.1 h u (e + 1) v) m = 0
    · have d0 : s.1 v - 1 = 0:=by rw [dv,z]; rfl
      have tn : s.2.2 + 1≤n:=PH n (s.2.2 + 1) (ou s.2.1 s.2.2 v) (fun i hi => by
        rw [ou_a]; split
        · exact hv
        · exact j2 i (by omega)) (fun i j hi hj q => by
        rw [ou_a,ou_a] at q
        split at q <;> split at q
        · omega
        · exact absurd ⟨j,by omega,q.symm⟩ nin
        · exact absurd ⟨i,by omega,q⟩ nin
        · exact j3 i j (by omega) (by omega) q)
      have eT : tp1 x src dst u e s = (ou s.1 v (s.1 v - 1),ou s.2.1 s.2.2 v,s.2.2 + 1):=by
        unfold tp1
        rw [if_pos c,hd,if_pos ⟨d0,by omega⟩]
      have rin : ∀ w e',rem x src dst (ou s.2.1 s.2.2 v) h u (e + 1) w e' = rem x src dst s.2.1 h u (e + 1) w e':=fun w e' => by
        unfold rem
        rw [inP_ou h (by omega)]
      have rcB : ∀ w,cB (rem x src dst (ou s.2.1 s.2.2 v) h u (e + 1) w) m = cB (rem x src dst s.2.1 h u (e + 1) w) m:=fun w => cB_ext m (fun i _ => rin w i)
      rw [eT]
      refine ⟨⟨tn,fun i hi => ?_,fun i j hi hj q => ?_,fun w hw => ?_,fun w hw => ?_,fun i e' hi he' hx hq => ?_⟩,?_,?_⟩
      · show ou s.2.1 s.2.2 v i < n
        have hi : i < s.2.2 + 1:=hi
        rw [ou_a]; split
        · exact hv
        · exact j2 i (by omega)
      · have hi : i < s.2.2 + 1:=hi
        have hj : j < s.2.2 + 1:=hj
        have q : ou s.2.1 s.2.2 v i = ou s.2.1 s.2.2 v j:=q
        rw [ou_a,ou_a] at q
        split at q <;> split at q
        · omega
        · exact absurd ⟨j,by omega,q.symm⟩ nin
        · exact absurd ⟨i,by omega,q⟩ nin
        · exact j3 i j (by omega) (by omega) q
      · show ou s.1 v (s.1 v - 1) w = nI (cB (rem x src dst (ou s.2.1 s.2.2 v) h u (e + 1) w) m)
        rw [rcB,ou_a]
        split
        · rename_i q; subst q; exact dv
        · rename_i q; rw [hext w q]; exact j4 w hw
      · show (∃ i,i < s.2.2 + 1∧ou s.2.1 s.2.2 v i = w) ↔ cB (rem x src dst (ou s.2.1 s.2.2 v) h u (e + 1) w) m = 0
        rw [rcB]
        by_cases q : w = v
        · subst q
          exact ⟨fun _ => z,fun _ => ⟨s.2.2,by omega,by rw [ou_a,if_pos rfl]⟩⟩
        · rw [hext w q,← j5 w hw]
          constructor
          · rintro ⟨i,hi,ei⟩
            rw [ou_a] at ei
            split at ei
            · exact absurd ei.symm q
            · exact ⟨i,by omega,ei⟩
          · rintro ⟨i,hi,ei⟩
            exact ⟨i,by omega,by rw [ou_a,if_neg (by omega)]; exact ei⟩
      · have hi : i < s.2.2 + 1:=hi
        have hq : dst e' = ou s.2.1 s.2.2 v i:=hq
        show ∃ j,j < i∧ou s.2.1 s.2.2 v j = src e'
        rw [ou_a] at hq
        split at hq
        · rename_i qi
          have r0:=cB_0 m z e' he'
          unfold rem at r0
          rw [hq] at r0
          simp [hx] at r0
          cases qq : inP s.2.1 h (src e')
          · have:=r0 qq
            exact ⟨h,by omega,by rw [ou_a,if_neg (by omega),hu]; exact this.1.symm⟩
          · obtain ⟨j,hj,ej⟩:=(inP_iff h).mp qq
            exact ⟨j,by omega,by rw [ou_a,if_neg (by omega)]; exact ej⟩
        · obtain ⟨j,hj,ej⟩:=j6 i e' (by omega) he' hx hq
          exact ⟨j,hj,by rw [ou_a,if_neg (by omega)]; exact ej⟩
      · show ou s.2.1 s.2.2 v h = u
        rw [ou_a,if_neg (by omega)]; exact hu
      · show s.2.2≤s.2.2 + 1
        omega
    · have d0 : ¬ s.1 v - 1 = 0:=by rw [dv]; exact nI_ne (c:=0) (by omega) (by decide) z
      have eT : tp1 x src dst u e s = (ou s.1 v (s.1 v - 1),s.2):=by
        unfold tp1
        rw [if_pos c,hd,if_neg (fun q => d0 q.1)]
      rw [eT]
      refine ⟨⟨j1,j2,j3,fun w hw => ?_,fun w hw => ?_,j6⟩,hu,Nat.le_refl _⟩
      · show ou s.1 v (s.1 v - 1) w = _
        rw [ou_a]
        split
        · rename_i q; subst q; exact dv
        · rename_i q; show s.1 w = nI (cB (rem x src dst s.2.1 h u (e + 1) w) m); rw [hext w q]; exact j4 w hw
      · show (∃ i,i < s.2.2∧s.2.1 i = w) ↔ cB (rem x src dst s.2.1 h u (e + 1) w) m = 0
        by_cases q : w = v
        · subst q
          exact ⟨fun q => absurd q nin,fun q => absurd q z⟩
        · rw [hext w q]; exact j5 w hw
  · have eT : tp1 x src dst u e s = s:=by
      unfold tp1
      rw [if_neg c]
    have rext : ∀ w,cB (rem x src dst s.2.1 h u (e + 1) w) m = cB (rem x src dst s.2.1 h u e w) m:=fun w => cB_ext m (fun i hi => by
      unfold rem
      by_cases z : i = e
      · subst z
        by_cases c1 : src i = u
        · have : ¬ x i = 0:=fun q => c ⟨c1,q⟩
          simp [this]
        · simp [c1]
      · have : (i < e + 1) = (i < e):=propext (by omega)
        simp only [this])
    rw [eT]
    refine ⟨⟨j1,j2,j3,fun w hw => ?_,fun w hw => ?_,j6⟩,hu,Nat.le_refl _⟩
    · rw [rext]; exact j4 w hw
    · rw [rext]; exact j5 w hw
theorem JK_E (hn : n≤32) (hm : m≤64) (hsd : ∀ e,e < m→src e < n∧dst e < n) {h u : Nat} : ∀ (r e : Nat) (s : TS),e + r = m→h < s.2.2→s.2.1 h = u→JK n m x src dst h u e s→JK n m x src dst h u m (tpE x src dst u r e s)∧(tpE x src dst u r e s).2.1 h = u∧h < (tpE x src dst u r e s).2.2:=by
  intro r
  induction r with
  | zero =>
    intro e s er hh hu hJ
    obtain rfl : e = m:=by omega
    exact ⟨hJ,hu,hh⟩
  | succ r ih =>
    intro e s er hh hu hJ
    subst hu
    have q:=JK_1 hn hm hsd hh (by omega) hJ
    rw [tpE]
    exact ih (e + 1) _ (by omega) (by omega) q.2.1 q.1
theorem JK_n {h u u' : Nat} {s : TS} (hu : s.2.1 h = u) (hJ : JK n m x src dst h u m s) : JK n m x src dst (h + 1) u' 0 s:=by
  obtain ⟨j1,j2,j3,j4,j5,j6⟩:=hJ
  have rext : ∀ w,cB (rem x src dst s.2.1 (h + 1) u' 0 w) m = cB (rem x src dst s.2.1 h u m w) m:=fun w => cB_ext m (fun i hi => by
    unfold rem
    rw [inP,hu]
    have e1 : decide (u = src i) = decide (src i = u):=decide_eq_decide.mpr ⟨Eq.symm,Eq.symm⟩
    rw [e1]
    cases inP s.2.1 h (src i) <;> simp [hi])
  refine ⟨j1,j2,j3,fun w hw => ?_,fun w hw => ?_,j6⟩
  · rw [rext]; exact j4 w hw
  · rw [rext]; exact j5 w hw
/-- an order: within n, no vertex twice, sources of register-free edges ahead -/
def KO (n m : Nat) (x : Nat→Int32) (src dst : Nat→Nat) (q : TQ) : Prop :=
  q.2≤n∧(∀ i,i < q.2→q.1 i < n)∧(∀ i j,i < q.2→j < q.2→q.1 i = q.1 j→i = j)∧(∀ i e',i < q.2→e' < m→x e' = 0→dst e' = q.1 i→∃ j,j < i∧q.1 j = src e')
theorem JK_H (hn : n≤32) (hm : m≤64) (hsd : ∀ e,e < m→src e < n∧dst e < n) : ∀ (f h u : Nat) (s : TS),JK n m x src dst h u 0 s→KO n m x src dst (tpH x src dst m f h s).2:=by
  intro f
  induction f with
  | zero =>
    intro h u s hJ
    exact ⟨hJ.1,hJ.2.1,hJ.2.2.1,hJ.2.2.2.2.2⟩
  | succ f ih =>
    intro h u s hJ
    rw [tpH]
    split
    · rename_i hh
      have e0 : JK n m x src dst h (s.2.1 h) 0 s:=by
        obtain ⟨j1,j2,j3,j4,j5,j6⟩:=hJ
        have rext : ∀ w,cB (rem x src dst s.2.1 h (s.2.1 h) 0 w) m = cB (rem x src dst s.2.1 h u 0 w) m:=fun w => cB_ext m (fun i hi => by unfold rem; simp)
        refine ⟨j1,j2,j3,fun w hw => ?_,fun w hw => ?_,j6⟩
        · rw [rext]; exact j4 w hw
        · rw [rext]; exact j5 w hw
      have q:=JK_E hn hm hsd m 0 s (by omega) hh rfl e0
      exact ih (h + 1) 0 _ (JK_n q.2.1 q.1)
    · exact ⟨hJ.1,hJ.2.1,hJ.2.2.1,hJ.2.2.2.2.2⟩
theorem tpI_c (hm : m≤64) {w : Nat} : ∀ (r e : Nat) (d : Nat→Int32),e + r = m→d w = nI (cB (fun i => decide (x i = 0) && decide (dst i = w)) e)→tpI x dst r e d w = nI (cB (fun i => decide (x i = 0) && decide (dst i = w)) m):=by
  intro r
  induction r with
  | zero =>
    intro e d er h
    obtain rfl : e = m:=by omega
    exact h
  | succ r ih =>
    intro e d er h
    rw [tpI]
    refine ih (e + 1) _ (by omega) ?_
    rw [cB]
    by_cases c : x e = 0
    · rw [if_pos c,ou_a]
      by_cases z : w = dst e
      · rw [if_pos z,← z,h,nI_1]
        simp [c,z]
      · have z' : ¬ dst e = w:=fun q => z q.symm
        rw [if_neg z,h]
        simp [z']
    · rw [if_neg c,h]
      simp [c]
theorem tpQ_c (hn : n≤32) {d : Nat→Int32} : ∀ (r v : Nat) (q : TQ),v + r = n→q.2≤v→(∀ i,i < q.2→q.1 i < v)→(∀ i j,i < q.2→j < q.2→q.1 i = q.1 j→i = j)→(∀ w,w < v→((∃ i,i < q.2∧q.1 i = w) ↔ d w = 0)) →
    (tpQ d r v q).2≤n∧(∀ i,i < (tpQ d r v q).2→(tpQ d r v q).1 i < n)∧(∀ i j,i < (tpQ d r v q).2→j < (tpQ d r v q).2→(tpQ d r v q).1 i = (tpQ d r v q).1 j→i = j)∧(∀ w,w < n→((∃ i,i < (tpQ d r v q).2∧(tpQ d r v q).1 i = w) ↔ d w = 0)):=by
  intro r
  induction r with
  | zero =>
    intro v q e h1 h2 h3 h4
    obtain rfl : v = n:=by omega
    exact ⟨h1,h2,h3,h4⟩
  | succ r ih =>
    intro v q e h1 h2 h3 h4
    rw [tpQ]
    by_cases c : d v = 0
    · rw [if_pos ⟨c,by omega⟩]
      refine ih (v + 1) (ou q.1 q.2 v,q.2 + 1) (by omega) (by show q.2 + 1≤v + 1; omega) (fun i hi => ?_) (fun i j hi hj z => ?_) (fun w hw => ?_)
      · have hi : i < q.2 + 1:=hi
        show ou q.1 q.2 v i < v + 1
        rw [ou_a]; split
        · omega
        · have:=h2 i (by omega); omega
      · have hi : i < q.2 + 1:=hi
        have hj : j < q.2 + 1:=hj
        have z : ou q.1 q.2 v i = ou q.1 q.2 v j:=z
        rw [ou_a,ou_a] at z
        split at z <;> split at z
        · omega
        · have:=h2 j (by omega); omega
        · have:=h2 i (by omega); omega
        · exact h3 i j (by omega) (by omega) z
      · show (∃ i,i < q.2 + 1∧ou q.1 q.2 v i = w) ↔ _
        by_cases y : w = v
        · subst y
          exact ⟨fun _ => c,fun _ => ⟨q.2,by omega,by rw [ou_a,if_pos rfl]⟩⟩
        · rw [← h4 w (by omega)]
          constructor
          · rintro ⟨i,hi,ei⟩
            rw [ou_a] at ei
            split at ei
            · exact absurd ei.symm y
            · exact ⟨i,by omega,ei⟩
          · rintro ⟨i,hi,ei⟩
            exact ⟨i,by omega,by rw [ou_a,if_neg (by omega)]; exact ei⟩
    · rw [if_neg (fun q => c q.1)]
      refine ih (v + 1) q (by omega) (by omega) (fun i hi => by have:=h2 i hi; omega) h3 (fun w hw => ?_)
      by_cases y : w = v
      · subst y
        exact ⟨fun ⟨i,hi,ei⟩ => absurd (h2 i hi) (by omega),fun q => absurd q c⟩
      · exact h4 w (by omega)
theorem topo_KO (hn : n≤32) (hm : m≤64) (hsd : ∀ e,e < m→src e < n∧dst e < n) (o : Nat→Nat) : KO n m x src dst (topo n m x src dst o):=by
  have hd : ∀ w,tpI x dst m 0 (fun _ => 0) w = nI (cB (fun i => decide (x i = 0) && decide (dst i = w)) m):=fun w => tpI_c hm m 0 _ (by omega) rfl
  have hr : ∀ (o' : Nat→Nat) w,cB (rem x src dst o' 0 0 0 w) m = cB (fun i => decide (x i = 0) && decide (dst i = w)) m:=fun o' w => cB_ext m (fun i hi => by unfold rem; simp [inP])
  obtain ⟨q1,q2,q3,q4⟩:=tpQ_c (d:=tpI x dst m 0 (fun _ => 0)) hn n 0 (o,0) (by omega) (Nat.le_refl _) (fun i hi => absurd hi (Nat.not_lt_zero _)) (fun i j hi => absurd hi (Nat.not_lt_zero _)) (fun w hw => absurd hw (by omega))
  unfold topo
  generalize hQ : tpQ (tpI x dst m 0 (fun _ => 0)) n 0 (o,0) = q at *
  have key : ∀ w,w < n→((∃ i,i < q.2∧q.1 i = w) ↔ cB (fun i => decide (x i = 0) && decide (dst i = w)) m = 0):=fun w hw => by
    rw [q4 w hw,hd]
    have:=cB_le (fun i => decide (x i = 0) && decide (dst i = w)) m
    exact nI_inj (c:=0) (by omega) (by decide)
  refine JK_H hn hm hsd 32 0 0 _ ⟨q1,q2,q3,fun v hv => ?_,fun v hv => ?_,fun i e' hi he' hx hq => ?_⟩
  · rw [hr]; exact hd v
  · rw [hr]; exact key v hv
  · have hq : dst e' = q.1 i:=hq
    have r0:=cB_0 m ((key (q.1 i) (q2 i hi)).mp ⟨i,hi,rfl⟩) e' he'
    simp [hx,hq] at r0
end Kahn
/-! period -/
section Per
variable {n m : Nat} {x vdel : Nat→Int32} {src dst : Nat→Nat}
theorem peE_c {arr : Nat→Int32} {v : Nat} {B : Int} (hB1 : B≤1000) (hv : 0≤(vdel v).toInt∧(vdel v).toInt≤15) (hB : ∀ e,e < m→dst e = v→x e = 0→0≤(arr (src e)).toInt∧(arr (src e)).toInt≤B) : ∀ (r e : Nat) (a : Int32),e + r = m→0≤a.toInt→a.toInt≤B + 15 →
    a.toInt≤(peE x vdel arr src dst v r e a).toInt∧(peE x vdel arr src dst v r e a).toInt≤B + 15∧∀ e',e≤e'→e' < m→dst e' = v→x e' = 0→(arr (src e')).toInt + (vdel v).toInt≤(peE x vdel arr src dst v r e a).toInt:=by
  intro r
  induction r with
  | zero =>
    intro e a er h0 h1
    exact ⟨Int.le_refl _,h1,fun e' q1 q2 => absurd q2 (by omega)⟩
  | succ r ih =>
    intro e a er h0 h1
    rw [peE]
    by_cases c : dst e = v∧x e = 0
    · rw [if_pos c]
      have hb:=hB e (by omega) c.1 c.2
      have es : (arr (src e) + vdel v).toInt = (arr (src e)).toInt + (vdel v).toInt:=add_i (by omega) (by omega)
      by_cases z : a < arr (src e) + vdel v
      · rw [if_pos z]
        rw [lt_i,es] at z
        obtain ⟨i1,i2,i3⟩:=ih (e + 1) (arr (src e) + vdel v) (by omega) (by omega) (by omega)
        refine ⟨by omega,i2,fun e' q1 q2 q3 q4 => ?_⟩
        by_cases w : e' = e
        · rw [w]; omega
        · exact i3 e' (by omega) q2 q3 q4
      · rw [if_neg z]
        rw [lt_i,es] at z
        obtain ⟨i1,i2,i3⟩:=ih (e + 1) a (by omega) h0 h1
        refine ⟨i1,i2,fun e' q1 q2 q3 q4 => ?_⟩
        by_cases w : e' = e
        · rw [w]; omega
        · exact i3 e' (by omega) q2 q3 q4
    · rw [if_neg c]
      obtain ⟨i1,i2,i3⟩:=ih (e + 1) a (by omega) h0 h1
      refine ⟨i1,i2,fun e' q1 q2 q3 q4 => ?_⟩
      by_cases w : e' = e
      · exact absurd ⟨w ▸ q3,w ▸ q4⟩ c
      · exact i3 e' (by omega) q2 q3 q4
def PI (n m : Nat) (x vdel : Nat→Int32) (src dst o : Nat→Nat) (i : Nat) (s : (Nat→Int32) × Int32) : Prop :=
  (∀ j,j < i→0≤(s.1 (o j)).toInt∧(s.1 (o j)).toInt≤15 * (j + 1)∧(vdel (o j)).toInt≤(s.1 (o j)).toInt∧(s.1 (o j)).toInt≤s.2.toInt) ∧
  (∀ e j,e < m→j < i→x e = 0→dst e = o j→(s.1 (src e)).toInt + (vdel (dst e)).toInt≤(s.1 (dst e)).toInt)∧0≤s.2.toInt∧s.2.toInt≤480
theorem peI_c (hn : n≤32) {o : Nat→Nat} (hvd : ∀ v,v < n→0≤(vdel v).toInt∧(vdel v).toInt≤15) (ho : ∀ i,i < n→o i < n) (hinj : ∀ i j,i < n→j < n→o i = o j→i = j) (htop : ∀ i e,i < n→e < m→x e = 0→dst e = o i→∃ j,j < i∧o j = src e) : ∀ (r i : Nat) (s : (Nat→Int32) × Int32),i + r = n→PI n m x vdel src dst o i s→PI n m x vdel src dst o n (peI m x vdel src dst o r i s):=by
  intro r
  induction r with
  | zero =>
    intro i s er h
    obtain rfl : i = n:=by omega
    exact h
  | succ r ih =>
    intro i s er h
    obtain ⟨h1,h2,h3,h4⟩:=h
    have hv:=hvd (o i) (ho i (by omega))
    rw [peI]
    have q:=peE_c (m:=m) (x:=x) (src:=src) (dst:=dst) (arr:=s.1) (v:=o i) (B:=15 * (i : Int)) (by omega) hv (fun e he hd hx => by
      obtain ⟨j,hj,ej⟩:=htop i e (by omega) he hx hd
      have:=h1 j hj
      rw [← ej]
      omega) m 0 (vdel (o i)) (by omega) hv.1 (by omega)
    generalize peE x vdel s.1 src dst (o i) m 0 (vdel (o i)) = a at *
    obtain ⟨q1,q2,q3⟩:=q
    have bb : s.2.toInt≤(if s.2 < a then a else s.2).toInt∧a.toInt≤(if s.2 < a then a else s.2).toInt∧(if s.2 < a then a else s.2).toInt≤480:=by
      by_cases z : s.2 < a
      · rw [if_pos z]; rw [lt_i] at z; omega
      · rw [if_neg z]; rw [lt_i] at z; omega
    generalize (if s.2 < a then a else s.2) = best at *
    have od : ∀ j,j < n→j ≠ i→ou s.1 (o i) a (o j) = s.1 (o j):=fun j hj hne => by
      rw [ou_a,if_neg (fun z => hne (hinj j i hj (by omega) z))]
    refine ih (i + 1) (ou s.1 (o i) a,best) (by omega) ⟨fun j hj => ?_,fun e j he hj hx hd => ?_,by show 0≤best.toInt; omega,bb.2.2⟩
    · show 0≤(ou s.1 (o i) a (o j)).toInt∧(ou s.1 (o i) a (o j)).toInt≤15 * (j + 1)∧(vdel (o j)).toInt≤(ou s.1 (o i) a (o j)).toInt∧(ou s.1 (o i) a (o j)).toInt≤best.toInt
      by_cases z : j = i
      · subst z
        rw [ou_a,if_pos rfl]
        omega
      · rw [od j (by omega) z]
        have:=h1 j (by omega)
        omega
    · show (ou s.1 (o i) a (src e)).toInt + (vdel (dst e)).toInt≤(ou s.1 (o i) a (dst e)).toInt
      obtain ⟨j',hj',ej'⟩:=htop j e (by omega) he hx hd
      rw [← ej',od j' (by omega) (by omega),ej',hd]
      by_cases z : j = i
      · subst z
        rw [ou_a,if_pos rfl]
        exact q3 e (by omega) he hd hx
      · rw [od j (by omega) z,← hd]
        exact h2 e j he (by omega) hx hd
/-- what the first period gives: delays arr, best -/
theorem per_c (hn : n≤32) {o : Nat→Nat} {arr : Nat→Int32} (hvd : ∀ v,v < n→0≤(vdel v).toInt∧(vdel v).toInt≤15) (ho : ∀ i,i < n→o i < n) (hinj : ∀ i j,i < n→j < n→o i = o j→i = j) (htop : ∀ i e,i < n→e < m→x e = 0→dst e = o i→∃ j,j < i∧o j = src e) (hsd : ∀ e,e < m→src e < n∧dst e < n) :
    (∀ v,v < n→0≤((peI m x vdel src dst o n 0 (arr,0)).1 v).toInt∧((peI m x vdel src dst o n 0 (arr,0)).1 v).toInt≤480∧(vdel v).toInt≤((peI m x vdel src dst o n 0 (arr,0)).1 v).toInt∧((peI m x vdel src dst o n 0 (arr,0)).1 v).toInt≤(peI m x vdel src dst o n 0 (arr,0)).2.toInt) ∧
    (∀ e,e < m→x e = 0→((peI m x vdel src dst o n 0 (arr,0)).1 (src e)).toInt + (vdel (dst e)).toInt≤((peI m x vdel src dst o n 0 (arr,0)).1 (dst e)).toInt)∧0≤(peI m x vdel src dst o n 0 (arr,0)).2.toInt∧(peI m x vdel src dst o n 0 (arr,0)).2.toInt≤480:=by
  obtain ⟨h1,h2,h3,h4⟩:=peI_c hn hvd ho hinj htop n 0 (arr,0) (by omega) ⟨fun j hj => absurd hj (by omega),fun e j _ hj => absurd hj (by omega),by show 0≤(0 : Int32).toInt; decide,by show (0 : Int32).toInt≤480; decide⟩
  refine ⟨fun v hv => ?_,fun e he hx => ?_,h3,h4⟩
  · obtain ⟨j,hj,ej⟩:=PHs ho hinj v hv
    have:=h1 j hj
    rw [ej] at this
    omega
  · obtain ⟨j,hj,ej⟩:=PHs ho hinj (dst e) (hsd e he).2
    exact h2 e j he hj hx ej.symm
end Per
/-! all pairs -/
theorem cB_mono {p q : Nat→Bool} : ∀ k,(∀ i,i < k→p i = true→q i = true)→cB p k≤cB q k:=by
  intro k
  induction k with
  | zero => intro _; exact Nat.le_refl _
  | succ k ih =>
    intro h
    rw [cB,cB]
    have:=ih (fun i hi => h i (by omega))
    by_cases c : p k = true
    · rw [if_pos c,if_pos (h k (by omega) c)]; omega
    · rw [if_neg c]; split <;> omega
theorem cB_dis {p q s : Nat→Bool} : ∀ k,(∀ i,i < k→p i = true→s i = true)→(∀ i,i < k→q i = true→s i = true)→(∀ i,i < k→p i = true→q i = true→False)→cB p k + cB q k≤cB s k:=by
  intro k
  induction k with
  | zero => intro _ _ _; exact Nat.le_refl _
  | succ k ih =>
    intro h1 h2 h3
    rw [cB,cB,cB]
    have:=ih (fun i hi => h1 i (by omega)) (fun i hi => h2 i (by omega)) (fun i hi => h3 i (by omega))
    by_cases c : p k = true
    · have c2 : ¬ q k = true:=fun z => h3 k (by omega) c z
      rw [if_pos c,if_neg c2,if_pos (h1 k (by omega) c)]; omega
    · by_cases c2 : q k = true
      · rw [if_neg c,if_pos c2,if_pos (h2 k (by omega) c2)]; omega
      · rw [if_neg c,if_neg c2]; split <;> omega
section Pairs
variable {n m : Nat} {reg vdel : Nat→Int32} {src dst : Nat→Nat} {φ : Nat→Int}
def PT (n : Nat) (φ : Nat→Int) (r : PR) : Prop:=∀ a b,a < n→b < n→r.1 (a * 32 + b) = true→0≤(r.2.1 (a * 32 + b)).toInt∧((r.2.1 (a * 32 + b)).toInt = 0→0≤(r.2.2 (a * 32 + b)).toInt∧(r.2.2 (a * 32 + b)).toInt≤φ b - φ a)
theorem ix_inj {a b i j : Nat} (hb : b < 32) (hj : j < 32) (h : a * 32 + b = i * 32 + j) : a = i∧b = j:=by omega
theorem PT_set {r : PR} {i j : Nat} {w y : Int32} (hn : n≤32) (hj : j < n) (h : PT n φ r) (h1 : 0≤w.toInt) (h2 : w.toInt = 0→0≤y.toInt∧y.toInt≤φ j - φ i) : PT n φ (ou r.1 (i * 32 + j) true,ou r.2.1 (i * 32 + j) w,ou r.2.2 (i * 32 + j) y):=by
  intro a b ha hb hr
  have hr : ou r.1 (i * 32 + j) true (a * 32 + b) = true:=hr
  show 0≤(ou r.2.1 (i * 32 + j) w (a * 32 + b)).toInt∧((ou r.2.1 (i * 32 + j) w (a * 32 + b)).toInt = 0→0≤(ou r.2.2 (i * 32 + j) y (a * 32 + b)).toInt∧(ou r.2.2 (i * 32 + j) y (a * 32 + b)).toInt≤φ b - φ a)
  rw [ou_a] at hr
  rw [ou_a,ou_a]
  by_cases z : a * 32 + b = i * 32 + j
  · obtain ⟨rfl,rfl⟩:=ix_inj (by omega) (by omega) z
    rw [if_pos z,if_pos z]
    exact ⟨h1,h2⟩
  · rw [if_neg z] at hr
    rw [if_neg z,if_neg z]
    exact h a b ha hb hr
theorem PT_off {r : PR} {i j : Nat} {w y : Int32} (hn : n≤32) (hj : j < n) (h : PT n φ r) (h1 : 0≤w.toInt) (h2 : w.toInt = 0→0≤y.toInt∧y.toInt≤φ j - φ i) : PT n φ (off (i * 32 + j) w y r):=by
  unfold off
  split
  · exact PT_set hn hj h h1 h2
  · exact h
/-- within round k: r0 the pairs ahead of it, S the pairs looked at -/
def MR (n k : Nat) (r0 : PR) (S : Nat→Nat→Prop) (r : PR) : Prop:=∀ a b,a < n→b < n →
  (r.1 (a * 32 + b) = true ↔ r0.1 (a * 32 + b) = true ∨ (S a b∧r0.1 (a * 32 + k) = true∧r0.1 (k * 32 + b) = true)) ∧
  (r0.1 (a * 32 + b) = true→(r.2.1 (a * 32 + b)).toInt≤(r0.2.1 (a * 32 + b)).toInt) ∧
  (¬ r0.1 (a * 32 + b) = true→r.1 (a * 32 + b) = true→(r.2.1 (a * 32 + b)).toInt = (r0.2.1 (a * 32 + k)).toInt + (r0.2.1 (k * 32 + b)).toInt) ∧
  ((a = k ∨ b = k)→r.2.1 (a * 32 + b) = r0.2.1 (a * 32 + b))
def W0 (n k : Nat) (r0 : PR) : Prop:=(∀ a b,a < n→b < n→r0.1 (a * 32 + b) = true→0≤(r0.2.1 (a * 32 + b)).toInt∧(r0.2.1 (a * 32 + b)).toInt≤1000)∧r0.1 (k * 32 + k) = true∧(r0.2.1 (k * 32 + k)).toInt = 0
theorem MR_w {k : Nat} {r0 r : PR} {S S' : Nat→Nat→Prop} (h : MR n k r0 S r) (hS : ∀ a b,a < n→b < n→r0.1 (a * 32 + k) = true→r0.1 (k * 32 + b) = true→(S a b ↔ S' a b)) : MR n k r0 S' r:=by
  intro a b ha hb
  obtain ⟨h1,h2,h3,h4⟩:=h a b ha hb
  refine ⟨h1.trans ⟨fun q => q.imp id (fun q => ⟨(hS a b ha hb q.2.1 q.2.2).mp q.1,q.2⟩),fun q => q.imp id (fun q => ⟨(hS a b ha hb q.2.1 q.2.2).mpr q.1,q.2⟩)⟩,h2,h3,h4⟩
theorem MR_k {k : Nat} {r0 r : PR} {S : Nat→Nat→Prop} (hk : k < n) (hW : W0 n k r0) (h : MR n k r0 S r) {a : Nat} (ha : a < n) : (r.1 (a * 32 + k) = true ↔ r0.1 (a * 32 + k) = true)∧(r.1 (k * 32 + a) = true ↔ r0.1 (k * 32 + a) = true):=by
  constructor
  · rw [(h a k ha hk).1]
    exact ⟨fun q => q.elim id (fun q => q.2.1),Or.inl⟩
  · rw [(h k a hk ha).1]
    exact ⟨fun q => q.elim id (fun q => q.2.2),Or.inl⟩
theorem MR_off {k i j : Nat} {r0 r : PR} {S : Nat→Nat→Prop} (hn : n≤32) (hk : k < n) (hi : i < n) (hj : j < n) (hW : W0 n k r0) (h : MR n k r0 S r) (r1 : r.1 (i * 32 + k) = true) (r2 : r.1 (k * 32 + j) = true) (y : Int32) :
    MR n k r0 (fun a b => S a b ∨ (a = i∧b = j)) (off (i * 32 + j) (r.2.1 (i * 32 + k) + r.2.1 (k * 32 + j)) y r)∧(r.2.1 (i * 32 + k) + r.2.1 (k * 32 + j)).toInt = (r.2.1 (i * 32 + k)).toInt + (r.2.1 (k * 32 + j)).toInt:=by
  have q1:=(MR_k hk hW h hi).1.mp r1
  have q2:=(MR_k hk hW h hj).2.mp r2
  have e1:=(h i k hi hk).2.2.2 (Or.inr rfl)
  have e2:=(h k j hk hj).2.2.2 (Or.inl rfl)
  have b1:=hW.1 i k hi hk q1
  have b2:=hW.1 k j hk hj q2
  rw [e1,e2]
  have es : (r0.2.1 (i * 32 + k) + r0.2.1 (k * 32 + j)).toInt = (r0.2.1 (i * 32 + k)).toInt + (r0.2.1 (k * 32 + j)).toInt:=add_i (by omega) (by omega)
  refine ⟨?_,es⟩
  intro a b ha hb
  obtain ⟨h1,h2,h3,h4⟩:=h a b ha hb
  unfold off
  by_cases z : a * 32 + b = i * 32 + j
  · obtain ⟨rfl,rfl⟩:=ix_inj (by omega) (by omega) z
    split
    · rename_i c
      show (ou r.1 _ true _ = true ↔ _)∧(_→(ou r.2.1 _ _ _).toInt≤_)∧(_→ou r.1 _ true _ = true→(ou r.2.1 _ _ _).toInt = _)∧(_→ou r.2.1 _ _ _ = _)
      rw [ou_a,if_pos rfl,ou_a,if_pos rfl]
      refine ⟨⟨fun _ => Or.inr ⟨Or.inr ⟨rfl,rfl⟩,q1,q2⟩,fun _ => rfl⟩,fun q => ?_,fun _ _ => es,fun q => ?_⟩
      · rcases c with c | c | c
        · rw [h1.mpr (Or.inl q)] at c; cases c
        · rw [lt_i] at c
          have:=h2 q
          omega
        · rw [c.1]
          exact h2 q
      · rcases q with rfl | rfl
        · apply Int32.toInt_inj.mp
          rw [es,hW.2.2]; omega
        · apply Int32.toInt_inj.mp
          rw [es,hW.2.2]; omega
    · rename_i c
      have hr : r.1 (a * 32 + b) = true:=by
        cases q : r.1 (a * 32 + b)
        · exact absurd (Or.inl q) c
        · rfl
      exact ⟨⟨fun _ => Or.inr ⟨Or.inr ⟨rfl,rfl⟩,q1,q2⟩,fun _ => hr⟩,h2,h3,h4⟩
  · have hS : (S a b ∨ (a = i∧b = j)) ↔ S a b:=⟨fun q => q.elim id (fun q => absurd (by rw [q.1,q.2]) z),Or.inl⟩
    show ((_ = true) ↔ _ ∨ ((S a b ∨ (a = i∧b = j))∧_∧_))∧_
    rw [hS]
    split
    · show (ou r.1 _ true _ = true ↔ _)∧(_→(ou r.2.1 _ _ _).toInt≤_)∧(_→ou r.1 _ true _ = true→(ou r.2.1 _ _ _).toInt = _)∧(_→ou r.2.1 _ _ _ = _)
      rw [ou_a,if_neg z,ou_a,if_neg z]
      exact ⟨h1,h2,h3,h4⟩
    · exact ⟨h1,h2,h3,h4⟩
theorem PT_via {k i j : Nat} {r : PR} (hn : n≤32) (hφ : ∀ v,v < n→0≤φ v∧φ v≤1000) (hk : k < n) (hi : i < n) (hj : j < n) (h : PT n φ r) (r1 : r.1 (i * 32 + k) = true) (r2 : r.1 (k * 32 + j) = true) (es : (r.2.1 (i * 32 + k) + r.2.1 (k * 32 + j)).toInt = (r.2.1 (i * 32 + k)).toInt + (r.2.1 (k * 32 + j)).toInt) : PT n φ (off (i * 32 + j) (r.2.1 (i * 32 + k) + r.2.1 (k * 32 + j)) (r.2.2 (i * 32 + k) + r.2.2 (k * 32 + j)) r):=by
  have p1:=h i k hi hk r1
  have p2:=h k j hk hj r2
  refine PT_off hn hj h (by omega) (fun q => ?_)
  have a1:=p1.2 (by omega)
  have a2:=p2.2 (by omega)
  have f1:=hφ i hi
  have f2:=hφ j hj
  have f3:=hφ k hk
  have e3 : (r.2.2 (i * 32 + k) + r.2.2 (k * 32 + j)).toInt = (r.2.2 (i * 32 + k)).toInt + (r.2.2 (k * 32 + j)).toInt:=add_i (by omega) (by omega)
  omega
theorem rvJ_c {k i : Nat} {r0 : PR} (hn : n≤32) (hφ : ∀ v,v < n→0≤φ v∧φ v≤1000) (hk : k < n) (hi : i < n) (hW : W0 n k r0) : ∀ (c j : Nat) (r : PR),j + c = n→r.1 (i * 32 + k) = true→MR n k r0 (fun a b => a < i ∨ (a = i∧b < j)) r→PT n φ r→MR n k r0 (fun a b => a < i + 1) (rvJ k i c j r)∧PT n φ (rvJ k i c j r):=by
  intro c
  induction c with
  | zero =>
    intro j r e hr hM hP
    exact ⟨MR_w hM (fun a b _ hb _ _ => by constructor <;> intro q <;> omega),hP⟩
  | succ c ih =>
    intro j r e hr hM hP
    rw [rvJ]
    by_cases z : r.1 (k * 32 + j) = true
    · rw [if_pos z]
      obtain ⟨m1,es⟩:=MR_off hn hk hi (by omega) hW hM hr z (r.2.2 (i * 32 + k) + r.2.2 (k * 32 + j))
      refine ih (j + 1) _ (by omega) ?_ (MR_w m1 (fun a b _ _ _ _ => by constructor <;> intro q <;> omega)) (PT_via hn hφ hk hi (by omega) hP hr z es)
      unfold off
      split
      · show ou r.1 _ true _ = true
        rw [ou_a]
        split
        · rfl
        · exact hr
      · exact hr
    · rw [if_neg z]
      refine ih (j + 1) r (by omega) hr (MR_w hM (fun a b ha hb q1 q2 => ?_)) hP
      have : ¬ b = j:=fun q => z ((MR_k hk hW hM (by omega)).2.mpr (q ▸ q2))
      constructor <;> intro q <;> omega
theorem rvI_c {k : Nat} {r0 : PR} (hn : n≤32) (hφ : ∀ v,v < n→0≤φ v∧φ v≤1000) (hk : k < n) (hW : W0 n k r0) : ∀ (c i : Nat) (r : PR),i + c = n→MR n k r0 (fun a b => a < i) r→PT n φ r→MR n k r0 (fun a b => a < n) (rvI n k c i r)∧PT n φ (rvI n k c i r):=by
  intro c
  induction c with
  | zero =>
    intro i r e hM hP
    obtain rfl : i = n:=by omega
    exact ⟨hM,hP⟩
  | succ c ih =>
    intro i r e hM hP
    rw [rvI]
    by_cases z : r.1 (i * 32 + k) = true
    · rw [if_pos z]
      obtain ⟨m1,p1⟩:=rvJ_c hn hφ hk (by omega : i < n) hW n 0 r (by omega) z (MR_w hM (fun a b _ _ _ _ => by constructor <;> intro q <;> omega)) hP
      exact ih (i + 1) _ (by omega) m1 p1
    · rw [if_neg z]
      refine ih (i + 1) r (by omega) (MR_w hM (fun a b ha hb q1 q2 => ?_)) hP
      have : ¬ a = i:=fun q => z ((MR_k hk hW hM (by omega)).1.mpr (q ▸ q1))
      constructor <;> intro q <;> omega
def FW (n k : Nat) (r : PR) : Prop :=
  (∀ a b,a < n→b < n→r.1 (a * 32 + b) = true→(r.2.1 (a * 32 + b)).toInt≤7 * (1 + (cB (fun l => r.1 (a * 32 + l) && r.1 (l * 32 + b)) k : Int))) ∧
  (∀ l a b,l < k→a < n→b < n→r.1 (a * 32 + l) = true→r.1 (l * 32 + b) = true→r.1 (a * 32 + b) = true) ∧
  (∀ a,a < n→r.1 (a * 32 + a) = true∧(r.2.1 (a * 32 + a)).toInt = 0)
theorem FW_step {k : Nat} {r0 : PR} (hn : n≤32) (hφ : ∀ v,v < n→0≤φ v∧φ v≤1000) (hk : k < n) (hF : FW n k r0) (hP : PT n φ r0) : FW n (k + 1) (rvI n k n 0 r0)∧PT n φ (rvI n k n 0 r0):=by
  obtain ⟨f1,f2,f3⟩:=hF
  have hW : W0 n k r0:=⟨fun a b ha hb hr => ⟨(hP a b ha hb hr).1,by
    have:=f1 a b ha hb hr
    have c:=cB_le (fun l => r0.1 (a * 32 + l) && r0.1 (l * 32 + b)) k
    omega⟩,(f3 k hk).1,(f3 k hk).2⟩
  obtain ⟨m1,p1⟩:=rvI_c hn hφ hk hW n 0 r0 (by omega) (fun a b ha hb => ⟨⟨Or.inl,fun q => q.elim id (fun q => absurd q.1 (by omega))⟩,fun _ => Int.le_refl _,fun q1 q2 => absurd q2 q1,fun _ => rfl⟩) hP
  refine ⟨?_,p1⟩
  generalize rvI n k n 0 r0 = r at *
  have R : ∀ a b,a < n→b < n→(r.1 (a * 32 + b) = true ↔ r0.1 (a * 32 + b) = true ∨ (r0.1 (a * 32 + k) = true∧r0.1 (k * 32 + b) = true)):=fun a b ha hb => (m1 a b ha hb).1.trans ⟨fun q => q.imp id (fun q => q.2),fun q => q.imp id (fun q => ⟨ha,q⟩)⟩
  have kk:=(f3 k hk).1
  refine ⟨fun a b ha hb hr => ?_,fun l a b hl ha hb q1 q2 => ?_,fun a ha => ?_⟩
  · by_cases z : r0.1 (a * 32 + b) = true
    · have w1:=(m1 a b ha hb).2.1 z
      have w2:=f1 a b ha hb z
      have c1 : cB (fun l => r0.1 (a * 32 + l) && r0.1 (l * 32 + b)) k≤cB (fun l => r.1 (a * 32 + l) && r.1 (l * 32 + b)) k:=cB_mono k (fun l hl q => by
        have q : (r0.1 (a * 32 + l) && r0.1 (l * 32 + b)) = true:=q
        rw [Bool.and_eq_true] at q
        show (r.1 (a * 32 + l) && r.1 (l * 32 + b)) = true
        rw [(R a l ha (by omega)).mpr (Or.inl q.1),(R l b (by omega) hb).mpr (Or.inl q.2)]; rfl)
      rw [cB]
      split <;> omega
    · have w1:=(m1 a b ha hb).2.2.1 z hr
      obtain ⟨ak,kb⟩:=((R a b ha hb).mp hr).resolve_left z
      have w2:=f1 a k ha hk ak
      have w3:=f1 k b hk hb kb
      have c1:=cB_dis (p:=fun l => r0.1 (a * 32 + l) && r0.1 (l * 32 + k)) (q:=fun l => r0.1 (k * 32 + l) && r0.1 (l * 32 + b)) (s:=fun l => r.1 (a * 32 + l) && r.1 (l * 32 + b)) k (fun l hl q => by
        have q : (r0.1 (a * 32 + l) && r0.1 (l * 32 + k)) = true:=q
        rw [Bool.and_eq_true] at q
        show (r.1 (a * 32 + l) && r.1 (l * 32 + b)) = true
        rw [(R a l ha (by omega)).mpr (Or.inl q.1),(R l b (by omega) hb).mpr (Or.inr ⟨q.2,kb⟩)]; rfl) (fun l hl q => by
        have q : (r0.1 (k * 32 + l) && r0.1 (l * 32 + b)) = true:=q
        rw [Bool.and_eq_true] at q
        show (r.1 (a * 32 + l) && r.1 (l * 32 + b)) = true
        rw [(R a l ha (by omega)).mpr (Or.inr ⟨ak,q.1⟩),(R l b (by omega) hb).mpr (Or.inl q.2)]; rfl) (fun l hl q q' => by
        have q : (r0.1 (a * 32 + l) && r0.1 (l * 32 + k)) = true:=q
        have q' : (r0.1 (k * 32 + l) && r0.1 (l * 32 + b)) = true:=q'
        rw [Bool.and_eq_true] at q q'
        exact z (f2 l a b hl ha hb q.1 q'.2))
      rw [cB]
      have sk : (r.1 (a * 32 + k) && r.1 (k * 32 + b)) = true:=by rw [(R a k ha hk).mpr (Or.inl ak),(R k b hk hb).mpr (Or.inl kb)]; rfl
      rw [if_pos sk]
      omega
  · rw [R a b ha hb]
    by_cases e : l = k
    · subst e
      rw [R a l ha hk] at q1
      rw [R l b hk hb] at q2
      exact Or.inr ⟨q1.elim id (fun q => q.1),q2.elim id (fun q => q.2)⟩
    · have hl' : l < k:=by omega
      rw [R a l ha (by omega)] at q1
      rw [R l b (by omega) hb] at q2
      rcases q1 with q1 | q1 <;> rcases q2 with q2 | q2
      · exact Or.inl (f2 l a b hl' ha hb q1 q2)
      · exact Or.inr ⟨f2 l a k hl' ha hk q1 q2.1,q2.2⟩
      · exact Or.inr ⟨q1.1,f2 l k b hl' hk hb q1.2 q2⟩
      · exact Or.inr ⟨q1.1,q2.2⟩
  · have h1:=(R a a ha ha).mpr (Or.inl (f3 a ha).1)
    have h2:=(m1 a a ha ha).2.1 (f3 a ha).1
    have h3:=(p1 a a ha ha h1).1
    have h4:=(f3 a ha).2
    exact ⟨h1,by omega⟩
theorem FW_all (hn : n≤32) (hφ : ∀ v,v < n→0≤φ v∧φ v≤1000) : ∀ (c k : Nat) (r : PR),k + c = n→FW n k r→PT n φ r→FW n n (cpV n c k r)∧PT n φ (cpV n c k r):=by
  intro c
  induction c with
  | zero =>
    intro k r e hF hP
    obtain rfl : k = n:=by omega
    exact ⟨hF,hP⟩
  | succ c ih =>
    intro k r e hF hP
    rw [cpV]
    obtain ⟨a,b⟩:=FW_step hn hφ (by omega : k < n) hF hP
    exact ih (k + 1) _ (by omega) a b
end Pairs
section Init
variable {n m : Nat} {reg vdel : Nat→Int32} {src dst : Nat→Nat} {φ : Nat→Int}
theorem cpD_c (hn : n≤32) : ∀ (c i : Nat) (r : PR),i + c = n→PT n φ r→(∀ a b,a < n→b < n→r.1 (a * 32 + b) = true→(r.2.1 (a * 32 + b)).toInt≤7)→(∀ a,a < i→r.1 (a * 32 + a) = true∧(r.2.1 (a * 32 + a)).toInt = 0) →
    PT n φ (cpD c i r)∧(∀ a b,a < n→b < n→(cpD c i r).1 (a * 32 + b) = true→((cpD c i r).2.1 (a * 32 + b)).toInt≤7)∧(∀ a,a < n→(cpD c i r).1 (a * 32 + a) = true∧((cpD c i r).2.1 (a * 32 + a)).toInt = 0):=by
  intro c
  induction c with
  | zero =>
    intro i r e hP h7 hd
    obtain rfl : i = n:=by omega
    exact ⟨hP,h7,hd⟩
  | succ c ih =>
    intro i r e hP h7 hd
    rw [cpD]
    refine ih (i + 1) _ (by omega) (PT_set hn (by omega) hP (by decide) (fun _ => ⟨by decide,by rw [Int.sub_self]; decide⟩)) (fun a b ha hb hr => ?_) (fun a ha => ?_)
    · have hr : ou r.1 (i * 32 + i) true (a * 32 + b) = true:=hr
      show (ou r.2.1 (i * 32 + i) 0 (a * 32 + b)).toInt≤7
      rw [ou_a] at hr ⊢
      split
      · decide
      · rename_i z
        rw [if_neg z] at hr
        exact h7 a b ha hb hr
    · show ou r.1 (i * 32 + i) true (a * 32 + a) = true∧(ou r.2.1 (i * 32 + i) 0 (a * 32 + a)).toInt = 0
      rw [ou_a,ou_a]
      by_cases z : a * 32 + a = i * 32 + i
      · rw [if_pos z,if_pos z]; exact ⟨rfl,rfl⟩
      · rw [if_neg z,if_neg z]; exact hd a (by omega)
theorem cpE_c (hn : n≤32) (hrg : ∀ e,e < m→0≤(reg e).toInt∧(reg e).toInt≤7) (hsd : ∀ e,e < m→src e < n∧dst e < n) (hφe : ∀ e,e < m→(reg e).toInt = 0→0≤(vdel (src e)).toInt∧(vdel (src e)).toInt≤φ (dst e) - φ (src e)) : ∀ (c e : Nat) (r : PR),e + c = m→PT n φ r→(∀ a b,a < n→b < n→r.1 (a * 32 + b) = true→(r.2.1 (a * 32 + b)).toInt≤7)→(∀ a,a < n→r.1 (a * 32 + a) = true∧(r.2.1 (a * 32 + a)).toInt = 0) →
    PT n φ (cpE reg vdel src dst c e r)∧(∀ a b,a < n→b < n→(cpE reg vdel src dst c e r).1 (a * 32 + b) = true→((cpE reg vdel src dst c e r).2.1 (a * 32 + b)).toInt≤7)∧(∀ a,a < n→(cpE reg vdel src dst c e r).1 (a * 32 + a) = true∧((cpE reg vdel src dst c e r).2.1 (a * 32 + a)).toInt = 0):=by
  intro c
  induction c with
  | zero => intro e r _ hP h7 hd; exact ⟨hP,h7,hd⟩
  | succ c ih =>
    intro e r er hP h7 hd
    have rg:=hrg e (by omega)
    have sd:=hsd e (by omega)
    rw [cpE]
    refine ih (e + 1) _ (by omega) (PT_off hn sd.2 hP rg.1 (hφe e (by omega))) (fun a b ha hb => ?_) (fun a ha => ?_)
    · unfold off
      split
      · intro hr
        have hr : ou r.1 (src e * 32 + dst e) true (a * 32 + b) = true:=hr
        show (ou r.2.1 (src e * 32 + dst e) (reg e) (a * 32 + b)).toInt≤7
        rw [ou_a] at hr ⊢
        split
        · exact rg.2
        · rename_i z
          rw [if_neg z] at hr
          exact h7 a b ha hb hr
      · exact h7 a b ha hb
    · unfold off
      split
      · rename_i q
        show ou r.1 (src e * 32 + dst e) true (a * 32 + a) = true∧(ou r.2.1 (src e * 32 + dst e) (reg e) (a * 32 + a)).toInt = 0
        rw [ou_a,ou_a]
        by_cases z : a * 32 + a = src e * 32 + dst e
        · rw [if_pos z,if_pos z]
          refine ⟨rfl,?_⟩
          have h:=hd a ha
          rw [← z] at q
          rcases q with q | q | q
          · rw [h.1] at q; cases q
          · rw [lt_i,h.2] at q; omega
          · rw [q.1]; exact h.2
        · rw [if_neg z,if_neg z]; exact hd a ha
      · exact hd a ha
theorem pairs_c (hn : n≤32) (hrg : ∀ e,e < m→0≤(reg e).toInt∧(reg e).toInt≤7) (hsd : ∀ e,e < m→src e < n∧dst e < n) (hφ : ∀ v,v < n→0≤φ v∧φ v≤1000) (hφe : ∀ e,e < m→(reg e).toInt = 0→0≤(vdel (src e)).toInt∧(vdel (src e)).toInt≤φ (dst e) - φ (src e)) :
    PT n φ (pairs n m reg vdel src dst)∧∀ a b,a < n→b < n→(pairs n m reg vdel src dst).1 (a * 32 + b) = true→((pairs n m reg vdel src dst).2.1 (a * 32 + b)).toInt≤231:=by
  obtain ⟨d1,d2,d3⟩:=cpD_c (φ:=φ) hn n 0 (fun _ => false,fun _ => 0,fun _ => 0) (by omega) (fun a b _ _ hr => by cases hr) (fun a b _ _ hr => by cases hr) (fun a ha => absurd ha (by omega))
  obtain ⟨e1,e2,e3⟩:=cpE_c hn hrg hsd hφe m 0 _ (by omega) d1 d2 d3
  obtain ⟨f1,f2⟩:=FW_all hn hφ n 0 _ (by omega) ⟨fun a b ha hb hr => by have:=e2 a b ha hb hr; rw [cB]; omega,fun l a b hl => absurd hl (by omega),e3⟩ e1
  refine ⟨f2,fun a b ha hb hr => ?_⟩
  have h1:=f1.1 a b ha hb hr
  have h2:=cB_le (fun l => (pairs n m reg vdel src dst).1 (a * 32 + l) && (pairs n m reg vdel src dst).1 (l * 32 + b)) n
  have h1 : ((pairs n m reg vdel src dst).2.1 (a * 32 + b)).toInt≤7 * (1 + (cB (fun l => (pairs n m reg vdel src dst).1 (a * 32 + l) && (pairs n m reg vdel src dst).1 (l * 32 + b)) n : Int)):=h1
  omega
end Init
/-! Bellman and Ford -/
section BF
variable {n m : Nat} {reg vdel : Nat→Int32} {src dst : Nat→Nat} {r : PR} {c : Int32}
def DB (n : Nat) (D : Int) (d : Nat→Int32) : Prop:=∀ v,v < n→-D≤(d v).toInt∧(d v).toInt≤0
theorem rpE_c (hrg : ∀ e,e < m→0≤(reg e).toInt∧(reg e).toInt≤7) (hsd : ∀ e,e < m→src e < n∧dst e < n) {D : Int} (hD : 0≤D∧D≤1000000) : ∀ (k e : Nat) (s : DC),e + k = m→DB n D s.1→DB n D (rpE reg src dst k e s).1∧((rpE reg src dst k e s).2 = false→s.2 = false∧(rpE reg src dst k e s).1 = s.1∧∀ e',e≤e'→e' < m→(s.1 (src e')).toInt≤(s.1 (dst e')).toInt + (reg e').toInt):=by
  intro k
  induction k with
  | zero => intro e s er hB; exact ⟨hB,fun q => ⟨q,rfl,fun e' q1 q2 => absurd q2 (by omega)⟩⟩
  | succ k ih =>
    intro e s er hB
    have rg:=hrg e (by omega)
    have sd:=hsd e (by omega)
    have b1:=hB (dst e) sd.2
    have b2:=hB (src e) sd.1
    have es : (s.1 (dst e) + reg e).toInt = (s.1 (dst e)).toInt + (reg e).toInt:=add_i (by omega) (by omega)
    rw [rpE]
    by_cases z : s.1 (dst e) + reg e < s.1 (src e)
    · rw [if_pos z]
      rw [lt_i,es] at z
      obtain ⟨i1,i2⟩:=ih (e + 1) (ou s.1 (src e) (s.1 (dst e) + reg e),true) (by omega) (fun v hv => by
        show -D≤(ou s.1 (src e) (s.1 (dst e) + reg e) v).toInt∧(ou s.1 (src e) (s.1 (dst e) + reg e) v).toInt≤0
        rw [ou_a]
        split
        · omega
        · exact hB v hv)
      exact ⟨i1,fun q => by have:=(i2 q).1; cases this⟩
    · rw [if_neg z]
      rw [lt_i,es] at z
      obtain ⟨i1,i2⟩:=ih (e + 1) s (by omega) hB
      refine ⟨i1,fun q => ⟨(i2 q).1,(i2 q).2.1,fun e' q1 q2 => ?_⟩⟩
      by_cases y : e' = e
      · subst y; omega
      · exact (i2 q).2.2 e' (by omega) q2
theorem rpV_c (hwt : ∀ a b,a < n→b < n→r.1 (a * 32 + b) = true→0≤(r.2.1 (a * 32 + b)).toInt∧(r.2.1 (a * 32 + b)).toInt≤231) {u : Nat} (hu : u < n) : ∀ (k v : Nat) (D : Int) (s : DC),v + k = n→0≤D→D + k≤1000000→DB n D s.1→DB n (D + k) (rpV r vdel c u k v s).1∧((rpV r vdel c u k v s).2 = false→s.2 = false∧(rpV r vdel c u k v s).1 = s.1):=by
  intro k
  induction k with
  | zero => intro v D s e d0 d1 hB; exact ⟨fun v hv => by have:=hB v hv; show -(D + ((0 : Nat) : Int))≤(s.1 v).toInt∧(s.1 v).toInt≤0; omega,fun q => ⟨q,rfl⟩⟩
  | succ k ih =>
    intro v D s e d0 d1 hB
    have hB1 : DB n (D + 1) s.1:=fun v hv => by have:=hB v hv; omega
    rw [rpV]
    by_cases z : r.1 (u * 32 + v) = true∧c < r.2.2 (u * 32 + v) + vdel v
    · rw [if_pos z]
      have w:=hwt u v hu (by omega) z.1
      have b1:=hB v (by omega)
      have b2:=hB u hu
      have e1 : (s.1 v + r.2.1 (u * 32 + v)).toInt = (s.1 v).toInt + (r.2.1 (u * 32 + v)).toInt:=add_i (by omega) (by omega)
      have e2 : (s.1 v + r.2.1 (u * 32 + v) - 1).toInt = (s.1 v).toInt + (r.2.1 (u * 32 + v)).toInt - 1:=by
        have i1 : (1 : Int32).toInt = 1:=rfl
        have:=sub_i (a:=s.1 v + r.2.1 (u * 32 + v)) (b:=1) (by omega) (by omega)
        rw [this,e1,i1]
      by_cases y : s.1 v + r.2.1 (u * 32 + v) - 1 < s.1 u
      · rw [if_pos y]
        rw [lt_i,e2] at y
        obtain ⟨i1,i2⟩:=ih (v + 1) (D + 1) (ou s.1 u (s.1 v + r.2.1 (u * 32 + v) - 1),true) (by omega) (by omega) (by omega) (fun w hw => by
          show -(D + 1)≤(ou s.1 u (s.1 v + r.2.1 (u * 32 + v) - 1) w).toInt∧(ou s.1 u (s.1 v + r.2.1 (u * 32 + v) - 1) w).toInt≤0
          rw [ou_a]
          split
          · omega
          · exact hB1 w hw)
        exact ⟨fun w hw => by have:=i1 w hw; omega,fun q => by have:=(i2 q).1; cases this⟩
      · rw [if_neg y]
        obtain ⟨i1,i2⟩:=ih (v + 1) (D + 1) s (by omega) (by omega) (by omega) hB1
        exact ⟨fun w hw => by have:=i1 w hw; omega,i2⟩
    · rw [if_neg z]
      obtain ⟨i1,i2⟩:=ih (v + 1) (D + 1) s (by omega) (by omega) (by omega) hB1
      exact ⟨fun w hw => by have:=i1 w hw; omega,i2⟩
theorem rpU_c (hn : n≤32) (hwt : ∀ a b,a < n→b < n→r.1 (a * 32 + b) = true→0≤(r.2.1 (a * 32 + b)).toInt∧(r.2.1 (a * 32 + b)).toInt≤231) : ∀ (k u : Nat) (D : Int) (s : DC),u + k = n→0≤D→D + 32 * k≤1000000→DB n D s.1→DB n (D + 32 * k) (rpU n r vdel c k u s).1∧((rpU n r vdel c k u s).2 = false→s.2 = false∧(rpU n r vdel c k u s).1 = s.1):=by
  intro k
  induction k with
  | zero => intro u D s e d0 d1 hB; exact ⟨fun v hv => by have:=hB v hv; show -(D + 32 * ((0 : Nat) : Int))≤(s.1 v).toInt∧(s.1 v).toInt≤0; omega,fun q => ⟨q,rfl⟩⟩
  | succ k ih =>
    intro u D s e d0 d1 hB
    rw [rpU]
    obtain ⟨v1,v2⟩:=rpV_c (vdel:=vdel) (c:=c) hwt (by omega : u < n) n 0 D s (by omega) d0 (by omega) hB
    obtain ⟨i1,i2⟩:=ih (u + 1) (D + 32) (rpV r vdel c u n 0 s) (by omega) (by omega) (by omega) (fun v hv => by have:=v1 v hv; omega)
    refine ⟨fun v hv => by have:=i1 v hv; omega,fun q => ?_⟩
    obtain ⟨q1,q2⟩:=i2 q
    obtain ⟨q3,q4⟩:=v2 q1
    exact ⟨q3,q2.trans q4⟩
theorem rpass_c (hn : n≤32) (hrg : ∀ e,e < m→0≤(reg e).toInt∧(reg e).toInt≤7) (hsd : ∀ e,e < m→src e < n∧dst e < n) (hwt : ∀ a b,a < n→b < n→r.1 (a * 32 + b) = true→0≤(r.2.1 (a * 32 + b)).toInt∧(r.2.1 (a * 32 + b)).toInt≤231) {D : Int} {d : Nat→Int32} (d0 : 0≤D) (d1 : D≤100000) (hB : DB n D d) :
    DB n (D + 1024) (rpass n m reg vdel src dst r c d).1∧((rpass n m reg vdel src dst r c d).2 = false→(rpass n m reg vdel src dst r c d).1 = d∧∀ e,e < m→(d (src e)).toInt≤(d (dst e)).toInt + (reg e).toInt):=by
  unfold rpass
  obtain ⟨e1,e2⟩:=rpE_c hrg hsd ⟨d0,by omega⟩ m 0 (d,false) (by omega) hB
  obtain ⟨u1,u2⟩:=rpU_c (vdel:=vdel) (c:=c) hn hwt n 0 D _ (by omega) d0 (by omega) e1
  refine ⟨fun v hv => by have:=u1 v hv; omega,fun q => ?_⟩
  obtain ⟨q1,q2⟩:=u2 q
  obtain ⟨q3,q4,q5⟩:=e2 q1
  exact ⟨q2.trans q4,fun e he => q5 e (by omega) he⟩
theorem feaL_c (hn : n≤32) (hrg : ∀ e,e < m→0≤(reg e).toInt∧(reg e).toInt≤7) (hsd : ∀ e,e < m→src e < n∧dst e < n) (hwt : ∀ a b,a < n→b < n→r.1 (a * 32 + b) = true→0≤(r.2.1 (a * 32 + b)).toInt∧(r.2.1 (a * 32 + b)).toInt≤231) : ∀ (f : Nat) (D : Int) (d : Nat→Int32),0≤D→D + 1024 * f≤100000→DB n D d →
    DB n (D + 1024 * f) (feaL n m reg vdel src dst r c f d).1∧((feaL n m reg vdel src dst r c f d).2 = true→∀ e,e < m→((feaL n m reg vdel src dst r c f d).1 (src e)).toInt≤((feaL n m reg vdel src dst r c f d).1 (dst e)).toInt + (reg e).toInt):=by
  intro f
  induction f with
  | zero => intro D d d0 d1 hB; exact ⟨fun v hv => by have:=hB v hv; show -(D + 1024 * 0)≤(d v).toInt∧(d v).toInt≤0; omega,fun q => by cases q⟩
  | succ f ih =>
    intro D d d0 d1 hB
    obtain ⟨p1,p2⟩:=rpass_c (vdel:=vdel) (c:=c) hn hrg hsd hwt d0 (by omega) hB
    rw [feaL]
    by_cases z : (rpass n m reg vdel src dst r c d).2 = true
    · rw [if_pos z]
      obtain ⟨i1,i2⟩:=ih (D + 1024) _ (by omega) (by omega) p1
      exact ⟨fun v hv => by have:=i1 v hv; omega,i2⟩
    · rw [if_neg z]
      have z' : (rpass n m reg vdel src dst r c d).2 = false:=by cases q : (rpass n m reg vdel src dst r c d).2 <;> simp_all
      obtain ⟨q1,q2⟩:=p2 z'
      refine ⟨fun v hv => ?_,fun _ e he => ?_⟩
      · show -(D + 1024 * ((f + 1 : Nat) : Int))≤((rpass n m reg vdel src dst r c d).1 v).toInt∧((rpass n m reg vdel src dst r c d).1 v).toInt≤0
        rw [q1]
        have:=hB v hv
        omega
      · show ((rpass n m reg vdel src dst r c d).1 (src e)).toInt≤((rpass n m reg vdel src dst r c d).1 (dst e)).toInt + (reg e).toInt
        rw [q1]
        exact q2 e he
theorem rpE_id {s : DC} : ∀ (k e : Nat),e + k = m→(∀ e,e < m→¬ s.1 (dst e) + reg e < s.1 (src e))→rpE reg src dst k e s = s:=by
  intro k
  induction k with
  | zero => intro e er h; rfl
  | succ k ih => intro e er h; rw [rpE,if_neg (h e (by omega))]; exact ih (e + 1) (by omega) h
theorem rpV_id {s : DC} {u : Nat} : ∀ (k v : Nat),v + k = n→(∀ v,v < n→r.1 (u * 32 + v) = true→c < r.2.2 (u * 32 + v) + vdel v→¬ s.1 v + r.2.1 (u * 32 + v) - 1 < s.1 u)→rpV r vdel c u k v s = s:=by
  intro k
  induction k with
  | zero => intro v er h; rfl
  | succ k ih =>
    intro v er h
    rw [rpV]
    by_cases z : r.1 (u * 32 + v) = true∧c < r.2.2 (u * 32 + v) + vdel v
    · rw [if_pos z,if_neg (h v (by omega) z.1 z.2)]; exact ih (v + 1) (by omega) h
    · rw [if_neg z]; exact ih (v + 1) (by omega) h
theorem rpU_id {s : DC} : ∀ (k u : Nat),u + k = n→(∀ u v,u < n→v < n→r.1 (u * 32 + v) = true→c < r.2.2 (u * 32 + v) + vdel v→¬ s.1 v + r.2.1 (u * 32 + v) - 1 < s.1 u)→rpU n r vdel c k u s = s:=by
  intro k
  induction k with
  | zero => intro u er h; rfl
  | succ k ih =>
    intro u er h
    rw [rpU,rpV_id n 0 (by omega) (fun v => h u v (by omega))]
    exact ih (u + 1) (by omega) h
end BF
theorem nI_hf {d : Nat} (h : d < 1024) : nI d / 2 = nI (d / 2):=by
  have : ∀ k : Fin 1024,nI k.val / 2 = nI (k.val / 2):=by decide +kernel
  exact this ⟨d,h⟩
theorem smin_c {fe : Int32→Bool} : ∀ (f a b : Nat),a≤b→b≤1000→b - a < 2 ^ f→fe (nI b) = true→∃ p,smin fe f (nI a) (nI b) = nI p∧p≤b∧fe (nI p) = true:=by
  intro f
  induction f with
  | zero =>
    intro a b h1 h2 h3 h4
    obtain rfl : a = b:=by rw [Nat.pow_zero] at h3; omega
    exact ⟨a,rfl,Nat.le_refl _,h4⟩
  | succ f ih =>
    intro a b h1 h2 h3 h4
    rw [Nat.pow_succ] at h3
    rw [smin]
    by_cases z : a < b
    · have z1 : nI a < nI b:=(nI_lt (by omega) (by omega)).mpr z
      have em : nI a + (nI b - nI a) / 2 = nI (a + (b - a) / 2):=by rw [nI_sub h1,nI_hf (by omega),nI_add]
      rw [if_pos z1,em]
      by_cases y : fe (nI (a + (b - a) / 2)) = true
      · rw [if_pos y]
        obtain ⟨p,p1,p2,p3⟩:=ih a (a + (b - a) / 2) (by omega) (by omega) (by omega) y
        exact ⟨p,p1,by omega,p3⟩
      · rw [if_neg y,nI_1]
        exact ih (a + (b - a) / 2 + 1) b (by omega) h2 (by omega) h4
    · have z1 : ¬ nI a < nI b:=fun q => z ((nI_lt (by omega) (by omega)).mp q)
      obtain rfl : a = b:=by omega
      rw [if_neg z1]
      exact ⟨a,rfl,Nat.le_refl _,h4⟩
def lagF (d : Nat→Int32) : Nat→Int32:=fun v => d v - d 0
def newF (reg d : Nat→Int32) (src dst : Nat→Nat) : Nat→Int32:=fun e => reg e + lagF d (dst e) - lagF d (src e)
section Ret
variable {n m : Nat} {reg vdel : Nat→Int32} {src dst : Nat→Nat}
/-- the parts of retime, as functions of the circuit -/
def rO (n m : Nat) (reg : Nat→Int32) (src dst : Nat→Nat) : TQ:=topo n m reg src dst (fun _ => 0)
theorem ret_c (hn0 : 0 < n) (hn : n≤32) (hm : m≤64) (hsd : ∀ e,e < m→src e < n∧dst e < n) (hrg : ∀ e,e < m→0≤(reg e).toInt∧(reg e).toInt≤7) (hvd : ∀ v,v < n→0≤(vdel v).toInt∧(vdel v).toInt≤15) {o0 : Nat→Nat} {arr : Nat→Int32} (hT : (topo n m reg src dst o0).2 = n) :
    ∃ p,smin (fun cc => (feas n m reg vdel src dst (pairs n m reg vdel src dst) cc).2) 40 0 (peI m reg vdel src dst (topo n m reg src dst o0).1 n 0 (arr,0)).2 = nI p∧p≤480∧∀ e,e < m→0≤(newF reg (feas n m reg vdel src dst (pairs n m reg vdel src dst) (nI p)).1 src dst e).toInt∧(newF reg (feas n m reg vdel src dst (pairs n m reg vdel src dst) (nI p)).1 src dst e).toInt≤1000000:=by
  obtain ⟨k1,k2,k3,k4⟩:=topo_KO (x:=reg) hn hm hsd o0
  rw [hT] at k1 k2 k3 k4
  generalize (topo n m reg src dst o0).1 = o at *
  obtain ⟨p1,p2,p3,p4⟩:=per_c (arr:=arr) hn hvd k2 k3 (fun i e hi he hx hd => k4 i e hi he hx hd) hsd
  generalize peI m reg vdel src dst o n 0 (arr,0) = P at *
  obtain ⟨q1,q2⟩:=pairs_c (reg:=reg) (vdel:=vdel) (src:=src) (dst:=dst) (φ:=fun v => (P.1 v).toInt - (vdel v).toInt) hn hrg hsd (fun v hv => by
    have:=p1 v hv
    have:=hvd v hv
    show 0≤(P.1 v).toInt - (vdel v).toInt∧(P.1 v).toInt - (vdel v).toInt≤1000
    omega) (fun e he hz => by
    have z : reg e = 0:=Int32.toInt_inj.mp hz
    have:=p2 e he z
    have:=hvd (src e) (hsd e he).1
    show 0≤(vdel (src e)).toInt∧(vdel (src e)).toInt≤(P.1 (dst e)).toInt - (vdel (dst e)).toInt - ((P.1 (src e)).toInt - (vdel (src e)).toInt)
    omega)
  generalize pairs n m reg vdel src dst = r at *
  have hwt : ∀ a b,a < n→b < n→r.1 (a * 32 + b) = true→0≤(r.2.1 (a * 32 + b)).toInt∧(r.2.1 (a * 32 + b)).toInt≤231:=fun a b ha hb hr => ⟨(q1 a b ha hb hr).1,q2 a b ha hb hr⟩
  obtain ⟨bk,hbk,eb⟩:=rng (x:=P.2) (n:=481) p3 (by omega)
  have eb' : P.2 = nI bk:=eb
  have ebI : P.2.toInt = bk:=by rw [eb']; exact nI_int (by omega)
  have top : (feas n m reg vdel src dst r (nI bk)).2 = true:=by
    have hp : rpass n m reg vdel src dst r (nI bk) (fun _ => 0) = ((fun _ => 0),false):=by
      unfold rpass
      have i1 : rpE reg src dst m 0 ((fun _ => 0),false) = ((fun _ => 0),false):=rpE_id (m:=m) m 0 (by omega) (fun e he => by
        show ¬ (0 : Int32) + reg e < 0
        rw [Int32.zero_add,lt_i]
        have:=hrg e he
        have i0 : (0 : Int32).toInt = 0:=rfl
        omega)
      rw [i1]
      exact rpU_id n 0 (by omega) (fun u v hu hv hr hc => by
        show ¬ (0 : Int32) + r.2.1 (u * 32 + v) - 1 < 0
        have w:=hwt u v hu hv hr
        have i0 : (0 : Int32).toInt = 0:=rfl
        have i1 : (1 : Int32).toInt = 1:=rfl
        have e2:=sub_i (a:=r.2.1 (u * 32 + v)) (b:=1) (by omega) (by omega)
        rw [Int32.zero_add,lt_i,e2,i1,i0]
        intro z
        have dd:=(q1 u v hu hv hr).2 (by omega)
        have dd : 0≤(r.2.2 (u * 32 + v)).toInt∧(r.2.2 (u * 32 + v)).toInt≤(P.1 v).toInt - (vdel v).toInt - ((P.1 u).toInt - (vdel u).toInt):=dd
        have a1:=p1 u hu
        have a2:=p1 v hv
        have a3:=hvd u hu
        have a4:=hvd v hv
        have e3 : (r.2.2 (u * 32 + v) + vdel v).toInt = (r.2.2 (u * 32 + v)).toInt + (vdel v).toInt:=add_i (by omega) (by omega)
        rw [lt_i,e3,nI_int (by omega)] at hc
        omega)
    unfold feas
    rw [feaL,hp]
    rfl
  obtain ⟨p,s1,s2,s3⟩:=smin_c (fe:=fun cc => (feas n m reg vdel src dst r cc).2) 40 0 bk (by omega) (by omega) (Nat.lt_of_lt_of_le (by omega : bk - 0 < 1024) (by decide)) top
  refine ⟨p,by rw [eb']; exact s1,by omega,fun e he => ?_⟩
  obtain ⟨f1,f2⟩:=feaL_c (vdel:=vdel) (c:=nI p) hn hrg hsd hwt (n + 2) 0 (fun _ => 0) (by omega) (by omega) (fun v hv => ⟨by show (-0 : Int)≤(0 : Int32).toInt; decide,by show (0 : Int32).toInt≤0; decide⟩)
  have f1 : DB n (0 + 1024 * ((n + 2 : Nat) : Int)) (feas n m reg vdel src dst r (nI p)).1:=f1
  have f2:=f2 s3 e he
  have f2 : ((feas n m reg vdel src dst r (nI p)).1 (src e)).toInt≤((feas n m reg vdel src dst r (nI p)).1 (dst e)).toInt + (reg e).toInt:=f2
  generalize (feas n m reg vdel src dst r (nI p)).1 = d at *
  have sd:=hsd e he
  have b0:=f1 0 hn0
  have b1:=f1 (src e) sd.1
  have b2:=f1 (dst e) sd.2
  have rg:=hrg e he
  have l1 : (lagF d (dst e)).toInt = (d (dst e)).toInt - (d 0).toInt:=sub_i (by omega) (by omega)
  have l2 : (lagF d (src e)).toInt = (d (src e)).toInt - (d 0).toInt:=sub_i (by omega) (by omega)
  have l3 : (reg e + lagF d (dst e)).toInt = (reg e).toInt + (lagF d (dst e)).toInt:=add_i (by omega) (by omega)
  have l4 : (newF reg d src dst e).toInt = (reg e + lagF d (dst e)).toInt - (lagF d (src e)).toInt:=sub_i (by omega) (by omega)
  omega
end Ret
/-! what topo leaves alone -/
section Keep
variable {n m : Nat} {x : Nat→Int32} {src dst : Nat→Nat}
def KP (o0 : Nat→Nat) (q : TQ) : Prop:=∀ i,q.2≤i→q.1 i = o0 i
theorem KP_push {o0 : Nat→Nat} {q : TQ} {v : Nat} (h : KP o0 q) : KP o0 (ou q.1 q.2 v,q.2 + 1):=by
  intro i hi
  have hi : q.2 + 1≤i:=hi
  show ou q.1 q.2 v i = o0 i
  rw [ou_a,if_neg (by omega)]
  exact h i (by omega)
theorem tpQ_k {o0 : Nat→Nat} {d : Nat→Int32} : ∀ (r v : Nat) (q : TQ),KP o0 q→KP o0 (tpQ d r v q):=by
  intro r
  induction r with
  | zero => intro v q h; exact h
  | succ r ih =>
    intro v q h
    rw [tpQ]
    split
    · exact ih _ _ (KP_push h)
    · exact ih _ _ h
theorem tp1_k {o0 : Nat→Nat} {u e : Nat} {s : TS} (h : KP o0 s.2) : KP o0 (tp1 x src dst u e s).2:=by
  unfold tp1
  split
  · show KP o0 (if _ then _ else _)
    split
    · exact KP_push h
    · exact h
  · exact h
theorem tpE_k {o0 : Nat→Nat} {u : Nat} : ∀ (r e : Nat) (s : TS),KP o0 s.2→KP o0 (tpE x src dst u r e s).2:=by
  intro r
  induction r with
  | zero => intro e s h; exact h
  | succ r ih => intro e s h; rw [tpE]; exact ih _ _ (tp1_k h)
theorem tpH_k {o0 : Nat→Nat} : ∀ (f h : Nat) (s : TS),KP o0 s.2→KP o0 (tpH x src dst m f h s).2:=by
  intro f
  induction f with
  | zero => intro h s q; exact q
  | succ f ih =>
    intro h s q
    rw [tpH]
    split
    · exact ih _ _ (tpE_k _ _ _ q)
    · exact q
theorem topo_k (o0 : Nat→Nat) : KP o0 (topo n m x src dst o0):=tpH_k _ _ _ (tpQ_k _ _ _ (fun _ _ => rfl))
theorem siT_o {vop vk inp : Nat→Int32} {o : Nat→Nat} {c i : Nat} (hi : ¬ (c * 32≤i∧i < c * 32 + 32)) : ∀ (k t : Nat) (p : (Nat→Int32) × (Nat→Int32)),t + k≤32→(siT n m vop vk inp x src dst o c k t p).2 i = p.2 i:=by
  intro k
  induction k with
  | zero => intro t p h; rfl
  | succ k ih =>
    intro t p h
    rw [siT,ih _ _ (by omega)]
    show ou p.2 _ _ i = _
    rw [ou_a,if_neg (by omega)]
end Keep
/-! the parts of retime and simulate, functions of the circuit -/
def cO (n m : Nat) (reg : Nat→Int32) (src dst : Nat→Nat) : TQ:=topo n m reg src dst (fun _ => 0)
def cP (n m : Nat) (vdel reg : Nat→Int32) (src dst : Nat→Nat) : (Nat→Int32) × Int32:=peI m reg vdel src dst (cO n m reg src dst).1 n 0 (fun _ => 0,0)
def cR (n m : Nat) (vdel reg : Nat→Int32) (src dst : Nat→Nat) : PR:=pairs n m reg vdel src dst
def cM (n m : Nat) (vdel reg : Nat→Int32) (src dst : Nat→Nat) : Int32:=smin (fun cc => (feas n m reg vdel src dst (cR n m vdel reg src dst) cc).2) 40 0 (cP n m vdel reg src dst).2
def cD (n m : Nat) (vdel reg : Nat→Int32) (src dst : Nat→Nat) : Nat→Int32:=(feas n m reg vdel src dst (cR n m vdel reg src dst) (cM n m vdel reg src dst)).1
def cX (n m : Nat) (vdel reg : Nat→Int32) (src dst : Nat→Nat) : Nat→Int32:=newF reg (cD n m vdel reg src dst) src dst
def cO1 (n m : Nat) (vdel reg : Nat→Int32) (src dst : Nat→Nat) : TQ:=topo n m (cX n m vdel reg src dst) src dst (cO n m reg src dst).1
def cP1 (n m : Nat) (vdel reg : Nat→Int32) (src dst : Nat→Nat) : Int32:=(peI m (cX n m vdel reg src dst) vdel src dst (cO1 n m vdel reg src dst).1 n 0 ((cP n m vdel reg src dst).1,0)).2
def cS0 (n m T : Nat) (vop vk inp reg : Nat→Int32) (src dst : Nat→Nat) : (Nat→Int32) × (Nat→Int32):=siT n m vop vk inp reg src dst (cO n m reg src dst).1 0 T 0 (fun _ => 0,fun _ => 0)
def cS1 (n m T : Nat) (vop vk inp vdel reg : Nat→Int32) (src dst : Nat→Nat) : (Nat→Int32) × (Nat→Int32):=siT n m vop vk inp (cX n m vdel reg src dst) src dst (cO1 n m vdel reg src dst).1 1 T 0 ((cS0 n m T vop vk inp reg src dst).1,(cS0 n m T vop vk inp reg src dst).2)
/-! all pairs: the best pairs -/
def val (r : PR) (i : Nat) : Int:=(r.2.1 i).toInt * 1048576 - (r.2.2 i).toInt
section Best
variable {n m : Nat} {reg vdel : Nat→Int32} {src dst : Nat→Nat} {P : Nat→Nat→Int→Int→Prop}
def AP (n : Nat) (P : Nat→Nat→Int→Int→Prop) (r : PR) : Prop:=∀ a b,a < n→b < n→r.1 (a * 32 + b) = true→P a b (r.2.1 (a * 32 + b)).toInt (r.2.2 (a * 32 + b)).toInt
/-- P bounds the delays and is closed under composition -/
def PB (n : Nat) (P : Nat→Nat→Int→Int→Prop) : Prop:=(∀ a b w y,P a b w y→0≤w∧0≤y∧y≤480 + 495 * w)∧(∀ a k b w1 y1 w2 y2,a < n→k < n→b < n→P a k w1 y1→P k b w2 y2→P a b (w1 + w2) (y1 + y2))
theorem AP_set {r : PR} {i j : Nat} {w y : Int32} (hn : n≤32) (hj : j < n) (h : AP n P r) (h1 : P i j w.toInt y.toInt) : AP n P (ou r.1 (i * 32 + j) true,ou r.2.1 (i * 32 + j) w,ou r.2.2 (i * 32 + j) y):=by
  intro a b ha hb hr
  have hr : ou r.1 (i * 32 + j) true (a * 32 + b) = true:=hr
  show P a b (ou r.2.1 (i * 32 + j) w (a * 32 + b)).toInt (ou r.2.2 (i * 32 + j) y (a * 32 + b)).toInt
  rw [ou_a] at hr
  rw [ou_a,ou_a]
  by_cases z : a * 32 + b = i * 32 + j
  · obtain ⟨rfl,rfl⟩:=ix_inj (by omega) (by omega) z
    rw [if_pos z,if_pos z]
    exact h1
  · rw [if_neg z] at hr
    rw [if_neg z,if_neg z]
    exact h a b ha hb hr
theorem AP_off {r : PR} {i j : Nat} {w y : Int32} (hn : n≤32) (hj : j < n) (h : AP n P r) (h1 : P i j w.toInt y.toInt) : AP n P (off (i * 32 + j) w y r):=by
  unfold off
  split
  · exact AP_set hn hj h h1
  · exact h
def MV (n k : Nat) (r0 : PR) (S : Nat→Nat→Prop) (r : PR) : Prop:=∀ a b,a < n→b < n →
  (r0.1 (a * 32 + b) = true→val r (a * 32 + b)≤val r0 (a * 32 + b)) ∧
  (S a b→r0.1 (a * 32 + k) = true→r0.1 (k * 32 + b) = true→val r (a * 32 + b)≤val r0 (a * 32 + k) + val r0 (k * 32 + b)) ∧
  (r.1 (a * 32 + b) = true→(r0.1 (a * 32 + b) = true∧val r (a * 32 + b) = val r0 (a * 32 + b)) ∨ (r0.1 (a * 32 + k) = true∧r0.1 (k * 32 + b) = true∧val r (a * 32 + b) = val r0 (a * 32 + k) + val r0 (k * 32 + b))) ∧
  ((a = k ∨ b = k)→r.2.2 (a * 32 + b) = r0.2.2 (a * 32 + b))
theorem MV_w {k : Nat} {r0 r : PR} {S S' : Nat→Nat→Prop} (h : MV n k r0 S r) (hS : ∀ a b,a < n→b < n→r0.1 (a * 32 + k) = true→r0.1 (k * 32 + b) = true→S' a b→S a b) : MV n k r0 S' r:=by
  intro a b ha hb
  obtain ⟨h1,h2,h3,h4⟩:=h a b ha hb
  exact ⟨h1,fun q q1 q2 => h2 (hS a b ha hb q1 q2 q) q1 q2,h3,h4⟩
theorem MV_off {k i j : Nat} {r0 r : PR} {S : Nat→Nat→Prop} (hn : n≤32) (hk : k < n) (hi : i < n) (hj : j < n) (hP : PB n P) (hW : W0 n k r0) (hkd : (r0.2.2 (k * 32 + k)).toInt = 0) (hM : MR n k r0 S r) (hV : MV n k r0 S r) (hA : AP n P r) (hA0 : AP n P r0) (r1 : r.1 (i * 32 + k) = true) (r2 : r.1 (k * 32 + j) = true) :
    MV n k r0 (fun a b => S a b ∨ (a = i∧b = j)) (off (i * 32 + j) (r.2.1 (i * 32 + k) + r.2.1 (k * 32 + j)) (r.2.2 (i * 32 + k) + r.2.2 (k * 32 + j)) r)∧AP n P (off (i * 32 + j) (r.2.1 (i * 32 + k) + r.2.1 (k * 32 + j)) (r.2.2 (i * 32 + k) + r.2.2 (k * 32 + j)) r):=by
  have q1:=(MR_k hk hW hM hi).1.mp r1
  have q2:=(MR_k hk hW hM hj).2.mp r2
  have e1:=(hM i k hi hk).2.2.2 (Or.inr rfl)
  have e2:=(hM k j hk hj).2.2.2 (Or.inl rfl)
  have e3:=(hV i k hi hk).2.2.2 (Or.inr rfl)
  have e4:=(hV k j hk hj).2.2.2 (Or.inl rfl)
  have b1:=hW.1 i k hi hk q1
  have b2:=hW.1 k j hk hj q2
  have p1:=hA0 i k hi hk q1
  have p2:=hA0 k j hk hj q2
  have c1:=hP.1 _ _ _ _ p1
  have c2:=hP.1 _ _ _ _ p2
  rw [e1,e2,e3,e4]
  have es : (r0.2.1 (i * 32 + k) + r0.2.1 (k * 32 + j)).toInt = (r0.2.1 (i * 32 + k)).toInt + (r0.2.1 (k * 32 + j)).toInt:=add_i (by omega) (by omega)
  have ed : (r0.2.2 (i * 32 + k) + r0.2.2 (k * 32 + j)).toInt = (r0.2.2 (i * 32 + k)).toInt + (r0.2.2 (k * 32 + j)).toInt:=add_i (by omega) (by omega)
  have pn:=hP.2 i k j _ _ _ _ hi hk hj p1 p2
  rw [← es,← ed] at pn
  refine ⟨?_,AP_off hn hj hA pn⟩
  have cn:=hP.1 _ _ _ _ pn
  have yb : (r0.2.2 (i * 32 + k) + r0.2.2 (k * 32 + j)).toInt < 1048576 * 2:=by omega
  generalize hw : r0.2.1 (i * 32 + k) + r0.2.1 (k * 32 + j) = w at *
  generalize hy : r0.2.2 (i * 32 + k) + r0.2.2 (k * 32 + j) = y at *
  have vn : w.toInt * 1048576 - y.toInt = val r0 (i * 32 + k) + val r0 (k * 32 + j):=by unfold val; omega
  intro a b ha hb
  obtain ⟨h1,h2,h3,h4⟩:=hV a b ha hb
  unfold off
  by_cases z : a * 32 + b = i * 32 + j
  · obtain ⟨rfl,rfl⟩:=ix_inj (by omega) (by omega) z
    split
    · rename_i c
      have ev : val (ou r.1 (a * 32 + b) true,ou r.2.1 (a * 32 + b) w,ou r.2.2 (a * 32 + b) y) (a * 32 + b) = w.toInt * 1048576 - y.toInt:=by
        unfold val
        show (ou r.2.1 (a * 32 + b) w (a * 32 + b)).toInt * 1048576 - (ou r.2.2 (a * 32 + b) y (a * 32 + b)).toInt = _
        rw [ou_a,if_pos rfl,ou_a,if_pos rfl]
      rw [ev]
      refine ⟨fun q => ?_,fun _ _ _ => by omega,fun _ => Or.inr ⟨q1,q2,vn⟩,fun q => ?_⟩
      · have rr : r.1 (a * 32 + b) = true:=((hM a b ha hb).1).mpr (Or.inl q)
        have hv:=h1 q
        have cc:=hP.1 _ _ _ _ (hA a b ha hb rr)
        have wb:=(hM a b ha hb).2.1 q
        have wb0:=hW.1 a b ha hb q
        unfold val at hv ⊢
        rcases c with c | c | c
        · rw [rr] at c; cases c
        · rw [lt_i] at c; omega
        · have c2:=c.2
          rw [lt_i] at c2
          rw [c.1]
          omega
      · show ou r.2.2 (a * 32 + b) y (a * 32 + b) = _
        rw [ou_a,if_pos rfl]
        apply Int32.toInt_inj.mp
        rcases q with rfl | rfl
        · rw [ed,hkd]; omega
        · rw [ed,hkd]; omega
    · rename_i c
      have rr : r.1 (a * 32 + b) = true:=by
        cases q : r.1 (a * 32 + b)
        · exact absurd (Or.inl q) c
        · rfl
      refine ⟨h1,fun _ _ _ => ?_,h3,h4⟩
      have cc:=hP.1 _ _ _ _ (hA a b ha hb rr)
      rw [← vn]
      unfold val
      have n1 : ¬ w < r.2.1 (a * 32 + b):=fun q => c (Or.inr (Or.inl q))
      have n2 : w = r.2.1 (a * 32 + b)→¬ r.2.2 (a * 32 + b) < y:=fun q1 q2 => c (Or.inr (Or.inr ⟨q1,q2⟩))
      rw [lt_i] at n1
      by_cases e : w = r.2.1 (a * 32 + b)
      · have n3:=n2 e
        rw [lt_i] at n3
        rw [← e]
        omega
      · have e' : w.toInt ≠ (r.2.1 (a * 32 + b)).toInt:=fun q => e (Int32.toInt_inj.mp q)
        omega
  · have ev : ∀ (x : PR),x = (ou r.1 (i * 32 + j) true,ou r.2.1 (i * 32 + j) w,ou r.2.2 (i * 32 + j) y)→val x (a * 32 + b) = val r (a * 32 + b)∧x.1 (a * 32 + b) = r.1 (a * 32 + b)∧x.2.2 (a * 32 + b) = r.2.2 (a * 32 + b):=by
      intro x ex
      subst ex
      refine ⟨?_,?_,?_⟩
      · unfold val
        show (ou r.2.1 (i * 32 + j) w (a * 32 + b)).toInt * 1048576 - (ou r.2.2 (i * 32 + j) y (a * 32 + b)).toInt = _
        rw [ou_a,if_neg z,ou_a,if_neg z]
      · show ou r.1 _ _ _ = _
        rw [ou_a,if_neg z]
      · show ou r.2.2 _ _ _ = _
        rw [ou_a,if_neg z]
    have hS : (S a b ∨ (a = i∧b = j))→S a b:=fun q => q.elim id (fun q => absurd (by rw [q.1,q.2]) z)
    split
    · obtain ⟨v1,v2,v3⟩:=ev _ rfl
      rw [v1,v2,v3]
      exact ⟨h1,fun q => h2 (hS q),h3,h4⟩
    · exact ⟨h1,fun q => h2 (hS q),h3,h4⟩
theorem rvJ_v {k i : Nat} {r0 : PR} (hn : n≤32) (hk : k < n) (hi : i < n) (hP : PB n P) (hW : W0 n k r0) (hkd : (r0.2.2 (k * 32 + k)).toInt = 0) (hA0 : AP n P r0) : ∀ (c j : Nat) (r : PR),j + c = n→r.1 (i * 32 + k) = true→MR n k r0 (fun a b => a < i ∨ (a = i∧b < j)) r→MV n k r0 (fun a b => a < i ∨ (a = i∧b < j)) r→AP n P r→MR n k r0 (fun a b => a < i + 1) (rvJ k i c j r)∧MV n k r0 (fun a b => a < i + 1) (rvJ k i c j r)∧AP n P (rvJ k i c j r):=by
  intro c
  induction c with
  | zero =>
    intro j r e hr hM hV hA
    exact ⟨MR_w hM (fun a b _ hb _ _ => by constructor <;> intro q <;> omega),MV_w hV (fun a b _ hb _ _ q => by omega),hA⟩
  | succ c ih =>
    intro j r e hr hM hV hA
    rw [rvJ]
    by_cases z : r.1 (k * 32 + j) = true
    · rw [if_pos z]
      obtain ⟨m1,_⟩:=MR_off hn hk hi (by omega) hW hM hr z (r.2.2 (i * 32 + k) + r.2.2 (k * 32 + j))
      obtain ⟨v1,a1⟩:=MV_off hn hk hi (by omega) hP hW hkd hM hV hA hA0 hr z
      refine ih (j + 1) _ (by omega) ?_ (MR_w m1 (fun a b _ _ _ _ => by constructor <;> intro q <;> omega)) (MV_w v1 (fun a b _ _ _ _ q => by omega)) a1
      unfold off
      split
      · show ou r.1 _ true _ = true
        rw [ou_a]
        split
        · rfl
        · exact hr
      · exact hr
    · rw [if_neg z]
      have ne : ∀ b,r0.1 (k * 32 + b) = true→¬ b = j:=fun b q2 q => z ((MR_k hk hW hM (by omega)).2.mpr (q ▸ q2))
      exact ih (j + 1) r (by omega) hr (MR_w hM (fun a b ha hb q1 q2 => by have:=ne b q2; constructor <;> intro q <;> omega)) (MV_w hV (fun a b ha hb q1 q2 q => by have:=ne b q2; omega)) hA
theorem rvI_v {k : Nat} {r0 : PR} (hn : n≤32) (hk : k < n) (hP : PB n P) (hW : W0 n k r0) (hkd : (r0.2.2 (k * 32 + k)).toInt = 0) (hA0 : AP n P r0) : ∀ (c i : Nat) (r : PR),i + c = n→MR n k r0 (fun a b => a < i) r→MV n k r0 (fun a b => a < i) r→AP n P r→MR n k r0 (fun a b => a < n) (rvI n k c i r)∧MV n k r0 (fun a b => a < n) (rvI n k c i r)∧AP n P (rvI n k c i r):=by
  intro c
  induction c with
  | zero =>
    intro i r e hM hV hA
    obtain rfl : i = n:=by omega
    exact ⟨hM,hV,hA⟩
  | succ c ih =>
    intro i r e hM hV hA
    rw [rvI]
    by_cases z : r.1 (i * 32 + k) = true
    · rw [if_pos z]
      obtain ⟨m1,v1,a1⟩:=rvJ_v hn hk (by omega : i < n) hP hW hkd hA0 n 0 r (by omega) z (MR_w hM (fun a b _ _ _ _ => by constructor <;> intro q <;> omega)) (MV_w hV (fun a b _ _ _ _ q => by omega)) hA
      exact ih (i + 1) _ (by omega) m1 v1 a1
    · rw [if_neg z]
      have ne : ∀ a,r0.1 (a * 32 + k) = true→¬ a = i:=fun a q1 q => z ((MR_k hk hW hM (by omega)).1.mpr (q ▸ q1))
      exact ih (i + 1) r (by omega) (MR_w hM (fun a b ha hb q1 q2 => by have:=ne a q1; constructor <;> intro q <;> omega)) (MV_w hV (fun a b ha hb q1 q2 q => by have:=ne a q1; omega)) hA
/-- no better way through a vertex below k; edges -/
def TR (n m k : Nat) (reg vdel : Nat→Int32) (src dst : Nat→Nat) (r : PR) : Prop :=
  (∀ l a b,l < k→a < n→b < n→r.1 (a * 32 + l) = true→r.1 (l * 32 + b) = true→val r (a * 32 + b)≤val r (a * 32 + l) + val r (l * 32 + b)) ∧
  (∀ e,e < m→r.1 (src e * 32 + dst e) = true∧val r (src e * 32 + dst e)≤(reg e).toInt * 1048576 - (vdel (src e)).toInt)
theorem TR_step {k : Nat} {r0 : PR} {φ : Nat→Int} (hn : n≤32) (hφ : ∀ v,v < n→0≤φ v∧φ v≤1000) (hk : k < n) (hP : PB n P) (hsd : ∀ e,e < m→src e < n∧dst e < n) (hz : ∀ a y,P a a 0 y→y≤0) (hF : FW n k r0) (hPT : PT n φ r0) (hA : AP n P r0) (hT : TR n m k reg vdel src dst r0) :
    FW n (k + 1) (rvI n k n 0 r0)∧PT n φ (rvI n k n 0 r0)∧AP n P (rvI n k n 0 r0)∧TR n m (k + 1) reg vdel src dst (rvI n k n 0 r0):=by
  obtain ⟨g1,g2⟩:=FW_step hn hφ hk hF hPT
  obtain ⟨f1,f2,f3⟩:=hF
  have hW : W0 n k r0:=⟨fun a b ha hb hr => ⟨(hPT a b ha hb hr).1,by
    have:=f1 a b ha hb hr
    have c:=cB_le (fun l => r0.1 (a * 32 + l) && r0.1 (l * 32 + b)) k
    omega⟩,(f3 k hk).1,(f3 k hk).2⟩
  have kk:=f3 k hk
  have hkd : (r0.2.2 (k * 32 + k)).toInt = 0:=by
    have p:=hA k k hk hk kk.1
    have c:=hP.1 _ _ _ _ p
    rw [kk.2] at p
    have:=hz k _ p
    omega
  obtain ⟨m1,v1,a1⟩:=rvI_v hn hk hP hW hkd hA n 0 r0 (by omega) (fun a b ha hb => ⟨⟨Or.inl,fun q => q.elim id (fun q => absurd q.1 (by omega))⟩,fun _ => Int.le_refl _,fun q1 q2 => absurd q2 q1,fun _ => rfl⟩) (fun a b ha hb => ⟨fun _ => Int.le_refl _,fun q => absurd q (by omega),fun q => Or.inl ⟨q,rfl⟩,fun _ => rfl⟩) hA
  refine ⟨g1,g2,a1,?_⟩
  have vkk : val r0 (k * 32 + k) = 0:=by unfold val; rw [kk.2,hkd]; rfl
  generalize rvI n k n 0 r0 = r at *
  obtain ⟨t1,t2⟩:=hT
  refine ⟨fun l a b hl ha hb q1 q2 => ?_,fun e he => ?_⟩
  · by_cases e : l = k
    · subst e
      have ra:=(MR_k hk hW m1 ha).1.mp q1
      have rb:=(MR_k hk hW m1 hb).2.mp q2
      have x1:=(v1 a b ha hb).2.1 ha ra rb
      have y1 : val r (a * 32 + l) = val r0 (a * 32 + l):=by
        unfold val
        rw [(m1 a l ha hk).2.2.2 (Or.inr rfl),(v1 a l ha hk).2.2.2 (Or.inr rfl)]
      have y2 : val r (l * 32 + b) = val r0 (l * 32 + b):=by
        unfold val
        rw [(m1 l b hk hb).2.2.2 (Or.inl rfl),(v1 l b hk hb).2.2.2 (Or.inl rfl)]
      omega
    · have hl' : l < k:=by omega
      have hln : l < n:=by omega
      rcases (v1 a l ha hln).2.2.1 q1 with ⟨c1,c2⟩ | ⟨c1,c1',c2⟩ <;> rcases (v1 l b hln hb).2.2.1 q2 with ⟨d1,d2⟩ | ⟨d1,d1',d2⟩
      · have x:=t1 l a b hl' ha hb c1 d1
        have y:=(v1 a b ha hb).1 (f2 l a b hl' ha hb c1 d1)
        omega
      · have x:=t1 l a k hl' ha hk c1 d1
        have y:=(v1 a b ha hb).2.1 ha (f2 l a k hl' ha hk c1 d1) d1'
        omega
      · have x:=t1 l k b hl' hk hb c1' d1
        have y:=(v1 a b ha hb).2.1 ha c1 (f2 l k b hl' hk hb c1' d1)
        omega
      · have x:=t1 l k k hl' hk hk c1' d1
        have y:=(v1 a b ha hb).2.1 ha c1 d1'
        omega
  · have sd:=hsd e he
    obtain ⟨x1,x2⟩:=t2 e he
    have y:=(v1 (src e) (dst e) sd.1 sd.2).1 x1
    exact ⟨((m1 (src e) (dst e) sd.1 sd.2).1).mpr (Or.inl x1),by omega⟩
end Best
section Best2
variable {n m : Nat} {reg vdel : Nat→Int32} {src dst : Nat→Nat} {P : Nat→Nat→Int→Int→Prop} {φ : Nat→Int}
theorem off_m {r : PR} {i j : Nat} {w y : Int32} (hn : n≤32) (hj : j < n) (hP : PB n P) (hA : AP n P r) (h7 : ∀ a b,a < n→b < n→r.1 (a * 32 + b) = true→(r.2.1 (a * 32 + b)).toInt≤1000) (hw : w.toInt≤1000) (h1 : P i j w.toInt y.toInt) {a b : Nat} (ha : a < n) (hb : b < n) :
    (r.1 (a * 32 + b) = true→(off (i * 32 + j) w y r).1 (a * 32 + b) = true∧val (off (i * 32 + j) w y r) (a * 32 + b)≤val r (a * 32 + b))∧(a = i→b = j→(off (i * 32 + j) w y r).1 (a * 32 + b) = true∧val (off (i * 32 + j) w y r) (a * 32 + b)≤w.toInt * 1048576 - y.toInt):=by
  have cn:=hP.1 _ _ _ _ h1
  unfold off
  by_cases z : a * 32 + b = i * 32 + j
  · obtain ⟨rfl,rfl⟩:=ix_inj (by omega) (by omega) z
    split
    · rename_i c
      have ev : val (ou r.1 (a * 32 + b) true,ou r.2.1 (a * 32 + b) w,ou r.2.2 (a * 32 + b) y) (a * 32 + b) = w.toInt * 1048576 - y.toInt:=by
        unfold val
        show (ou r.2.1 (a * 32 + b) w (a * 32 + b)).toInt * 1048576 - (ou r.2.2 (a * 32 + b) y (a * 32 + b)).toInt = _
        rw [ou_a,if_pos rfl,ou_a,if_pos rfl]
      have er : (ou r.1 (a * 32 + b) true,ou r.2.1 (a * 32 + b) w,ou r.2.2 (a * 32 + b) y).1 (a * 32 + b) = true:=by
        show ou r.1 _ _ _ = _
        rw [ou_a,if_pos rfl]
      rw [ev]
      refine ⟨fun rr => ⟨er,?_⟩,fun _ _ => ⟨er,Int.le_refl _⟩⟩
      have cc:=hP.1 _ _ _ _ (hA a b ha hb rr)
      have wb:=h7 a b ha hb rr
      unfold val
      rcases c with c | c | c
      · rw [rr] at c; cases c
      · rw [lt_i] at c; omega
      · have c2:=c.2
        rw [lt_i] at c2
        rw [c.1]
        omega
    · rename_i c
      refine ⟨fun rr => ⟨rr,Int.le_refl _⟩,fun _ _ => ?_⟩
      have rr : r.1 (a * 32 + b) = true:=by
        cases q : r.1 (a * 32 + b)
        · exact absurd (Or.inl q) c
        · rfl
      refine ⟨rr,?_⟩
      have cc:=hP.1 _ _ _ _ (hA a b ha hb rr)
      unfold val
      have n1 : ¬ w < r.2.1 (a * 32 + b):=fun q => c (Or.inr (Or.inl q))
      have n2 : w = r.2.1 (a * 32 + b)→¬ r.2.2 (a * 32 + b) < y:=fun q1 q2 => c (Or.inr (Or.inr ⟨q1,q2⟩))
      rw [lt_i] at n1
      by_cases e : w = r.2.1 (a * 32 + b)
      · have n3:=n2 e
        rw [lt_i] at n3
        rw [← e]
        omega
      · have e' : w.toInt ≠ (r.2.1 (a * 32 + b)).toInt:=fun q => e (Int32.toInt_inj.mp q)
        omega
  · have nij : ¬ (a = i∧b = j):=fun q => z (by rw [q.1,q.2])
    refine ⟨fun rr => ?_,fun q1 q2 => absurd ⟨q1,q2⟩ nij⟩
    split
    · refine ⟨?_,?_⟩
      · show ou r.1 _ _ _ = _
        rw [ou_a,if_neg z]; exact rr
      · unfold val
        show (ou r.2.1 (i * 32 + j) w (a * 32 + b)).toInt * 1048576 - (ou r.2.2 (i * 32 + j) y (a * 32 + b)).toInt≤_
        rw [ou_a,if_neg z,ou_a,if_neg z]
        exact Int.le_refl _
    · exact ⟨rr,Int.le_refl _⟩
theorem cpD_v (hn : n≤32) (p0 : ∀ a,a < n→P a a 0 0) : ∀ (c i : Nat) (r : PR),i + c = n→AP n P r→AP n P (cpD c i r):=by
  intro c
  induction c with
  | zero => intro i r _ h; exact h
  | succ c ih =>
    intro i r e h
    rw [cpD]
    exact ih (i + 1) _ (by omega) (AP_set hn (by omega) h (p0 i (by omega)))
theorem cpE_v (hn : n≤32) (hP : PB n P) (hrg : ∀ e,e < m→0≤(reg e).toInt∧(reg e).toInt≤7) (hsd : ∀ e,e < m→src e < n∧dst e < n) (pe : ∀ e,e < m→P (src e) (dst e) (reg e).toInt (vdel (src e)).toInt) : ∀ (c e : Nat) (r : PR),e + c = m→AP n P r→(∀ a b,a < n→b < n→r.1 (a * 32 + b) = true→(r.2.1 (a * 32 + b)).toInt≤7)→(∀ e',e' < e→r.1 (src e' * 32 + dst e') = true∧val r (src e' * 32 + dst e')≤(reg e').toInt * 1048576 - (vdel (src e')).toInt) →
    AP n P (cpE reg vdel src dst c e r)∧(∀ e',e' < m→(cpE reg vdel src dst c e r).1 (src e' * 32 + dst e') = true∧val (cpE reg vdel src dst c e r) (src e' * 32 + dst e')≤(reg e').toInt * 1048576 - (vdel (src e')).toInt):=by
  intro c
  induction c with
  | zero =>
    intro e r er hA h7 he
    obtain rfl : e = m:=by omega
    exact ⟨hA,he⟩
  | succ c ih =>
    intro e r er hA h7 he
    have sd:=hsd e (by omega)
    have rg:=hrg e (by omega)
    have h1:=pe e (by omega)
    have h7' : ∀ a b,a < n→b < n→r.1 (a * 32 + b) = true→(r.2.1 (a * 32 + b)).toInt≤1000:=fun a b ha hb hr => by have:=h7 a b ha hb hr; omega
    rw [cpE]
    refine ih (e + 1) _ (by omega) (AP_off hn sd.2 hA h1) (fun a b ha hb => ?_) (fun e' he' => ?_)
    · unfold off
      split
      · intro hr
        have hr : ou r.1 (src e * 32 + dst e) true (a * 32 + b) = true:=hr
        show (ou r.2.1 (src e * 32 + dst e) (reg e) (a * 32 + b)).toInt≤7
        rw [ou_a] at hr ⊢
        split
        · exact rg.2
        · rename_i z
          rw [if_neg z] at hr
          exact h7 a b ha hb hr
      · exact h7 a b ha hb
    · have sd':=hsd e' (by omega)
      have q:=off_m (r:=r) hn sd.2 hP hA h7' (by omega) h1 sd'.1 sd'.2
      by_cases z : e' = e
      · subst z
        exact q.2 rfl rfl
      · obtain ⟨a1,a2⟩:=he e' (by omega)
        obtain ⟨b1,b2⟩:=q.1 a1
        exact ⟨b1,by omega⟩
theorem TR_all (hn : n≤32) (hφ : ∀ v,v < n→0≤φ v∧φ v≤1000) (hP : PB n P) (hsd : ∀ e,e < m→src e < n∧dst e < n) (hz : ∀ a y,P a a 0 y→y≤0) : ∀ (c k : Nat) (r : PR),k + c = n→FW n k r→PT n φ r→AP n P r→TR n m k reg vdel src dst r→FW n n (cpV n c k r)∧AP n P (cpV n c k r)∧TR n m n reg vdel src dst (cpV n c k r):=by
  intro c
  induction c with
  | zero =>
    intro k r e hF hPT hA hT
    obtain rfl : k = n:=by omega
    exact ⟨hF,hA,hT⟩
  | succ c ih =>
    intro k r e hF hPT hA hT
    rw [cpV]
    obtain ⟨a1,a2,a3,a4⟩:=TR_step hn hφ (by omega : k < n) hP hsd hz hF hPT hA hT
    exact ih (k + 1) _ (by omega) a1 a2 a3 a4
theorem pairs_v (hn : n≤32) (hrg : ∀ e,e < m→0≤(reg e).toInt∧(reg e).toInt≤7) (hsd : ∀ e,e < m→src e < n∧dst e < n) (hφ : ∀ v,v < n→0≤φ v∧φ v≤1000) (hφe : ∀ e,e < m→(reg e).toInt = 0→0≤(vdel (src e)).toInt∧(vdel (src e)).toInt≤φ (dst e) - φ (src e)) (hP : PB n P) (hz : ∀ a y,P a a 0 y→y≤0) (p0 : ∀ a,a < n→P a a 0 0) (pe : ∀ e,e < m→P (src e) (dst e) (reg e).toInt (vdel (src e)).toInt) :
    FW n n (pairs n m reg vdel src dst)∧AP n P (pairs n m reg vdel src dst)∧TR n m n reg vdel src dst (pairs n m reg vdel src dst):=by
  obtain ⟨d1,d2,d3⟩:=cpD_c (φ:=φ) hn n 0 (fun _ => false,fun _ => 0,fun _ => 0) (by omega) (fun a b _ _ hr => by cases hr) (fun a b _ _ hr => by cases hr) (fun a ha => absurd ha (by omega))
  obtain ⟨e1,e2,e3⟩:=cpE_c hn hrg hsd hφe m 0 _ (by omega) d1 d2 d3
  have dA:=cpD_v hn p0 n 0 (fun _ => false,fun _ => 0,fun _ => 0) (by omega) (fun a b _ _ hr => by cases hr)
  obtain ⟨eA,eT⟩:=cpE_v hn hP hrg hsd pe m 0 _ (by omega) dA d2 (fun e' he' => absurd he' (by omega))
  exact TR_all hn hφ hP hsd hz n 0 _ (by omega) ⟨fun a b ha hb hr => by have:=e2 a b ha hb hr; rw [cB]; omega,fun l a b hl => absurd hl (by omega),e3⟩ e1 eA ⟨fun l a b hl => absurd hl (by omega),eT⟩
end Best2
/-! Kahn's order is complete where a key grows along the edges -/
section Full
variable {n m : Nat} {x : Nat→Int32} {src dst : Nat→Nat}
theorem JK_F (hn : n≤32) (hm : m≤64) (hsd : ∀ e,e < m→src e < n∧dst e < n) : ∀ (f h u : Nat) (s : TS),h + f = 32→h≤s.2.2→JK n m x src dst h u 0 s→∃ u',JK n m x src dst (tpH x src dst m f h s).2.2 u' 0 (tpH x src dst m f h s):=by
  intro f
  induction f with
  | zero =>
    intro h u s e hh hJ
    have : h = s.2.2:=by have:=hJ.1; omega
    rw [tpH]
    exact ⟨u,this ▸ hJ⟩
  | succ f ih =>
    intro h u s e hh hJ
    rw [tpH]
    split
    · rename_i hlt
      have e0 : JK n m x src dst h (s.2.1 h) 0 s:=by
        obtain ⟨j1,j2,j3,j4,j5,j6⟩:=hJ
        have rext : ∀ w,cB (rem x src dst s.2.1 h (s.2.1 h) 0 w) m = cB (rem x src dst s.2.1 h u 0 w) m:=fun w => cB_ext m (fun i hi => by unfold rem; simp)
        refine ⟨j1,j2,j3,fun w hw => ?_,fun w hw => ?_,j6⟩
        · rw [rext]; exact j4 w hw
        · rw [rext]; exact j5 w hw
      have q:=JK_E hn hm hsd m 0 s (by omega) hlt rfl e0
      exact ih (h + 1) 0 _ (by omega) (by have:=q.2.2; omega) (JK_n q.2.1 q.1)
    · rename_i hge
      have : h = s.2.2:=by omega
      exact ⟨u,this ▸ hJ⟩
theorem cB_pos {p : Nat→Bool} : ∀ k,cB p k ≠ 0→∃ i,i < k∧p i = true:=by
  intro k
  induction k with
  | zero => intro h; exact absurd rfl h
  | succ k ih =>
    intro h
    rw [cB] at h
    by_cases c : p k = true
    · exact ⟨k,by omega,c⟩
    · rw [if_neg c] at h
      obtain ⟨i,hi,e⟩:=ih (by omega)
      exact ⟨i,by omega,e⟩
theorem min_ex {q : Nat→Prop} {key : Nat→Int} : ∀ (N : Nat) (n v : Nat),v < n→q v→(∀ w,w < n→q w→-1000000≤key w)→key v + 1000000 < N→∃ w,w < n∧q w∧∀ z,z < n→q z→key w≤key z:=by
  intro N
  induction N with
  | zero => intro n v hv hq hb h; have:=hb v hv hq; omega
  | succ N ih =>
    intro n v hv hq hb h
    by_cases c : ∃ z,z < n∧q z∧key z < key v
    · obtain ⟨z,h1,h2,h3⟩:=c
      exact ih n z h1 h2 hb (by omega)
    · exact ⟨v,hv,hq,fun z h1 h2 => by
        by_cases d : key z < key v
        · exact absurd ⟨z,h1,h2,d⟩ c
        · omega⟩
theorem topo_full (hn : n≤32) (hm : m≤64) (hsd : ∀ e,e < m→src e < n∧dst e < n) (o : Nat→Nat) {key : Nat→Int} (hk : ∀ v,v < n→-1000000≤key v∧key v≤100000000) (hkey : ∀ e,e < m→x e = 0→key (src e) < key (dst e)) : (topo n m x src dst o).2 = n:=by
  have hd : ∀ w,tpI x dst m 0 (fun _ => 0) w = nI (cB (fun i => decide (x i = 0) && decide (dst i = w)) m):=fun w => tpI_c hm m 0 _ (by omega) rfl
  have hr : ∀ (o' : Nat→Nat) w,cB (rem x src dst o' 0 0 0 w) m = cB (fun i => decide (x i = 0) && decide (dst i = w)) m:=fun o' w => cB_ext m (fun i hi => by unfold rem; simp [inP])
  obtain ⟨q1,q2,q3,q4⟩:=tpQ_c (d:=tpI x dst m 0 (fun _ => 0)) hn n 0 (o,0) (by omega) (Nat.le_refl _) (fun i hi => absurd hi (Nat.not_lt_zero _)) (fun i j hi => absurd hi (Nat.not_lt_zero _)) (fun w hw => absurd hw (by omega))
  unfold topo
  generalize hQ : tpQ (tpI x dst m 0 (fun _ => 0)) n 0 (o,0) = q at *
  have kq : ∀ w,w < n→((∃ i,i < q.2∧q.1 i = w) ↔ cB (fun i => decide (x i = 0) && decide (dst i = w)) m = 0):=fun w hw => by
    rw [q4 w hw,hd]
    have:=cB_le (fun i => decide (x i = 0) && decide (dst i = w)) m
    exact nI_inj (c:=0) (by omega) (by decide)
  obtain ⟨u',hJ⟩:=JK_F (x:=x) hn hm hsd 32 0 0 (tpI x dst m 0 (fun _ => 0),q) (by omega) (Nat.zero_le _) ⟨q1,q2,q3,fun v hv => by rw [hr]; exact hd v,fun v hv => by rw [hr]; exact kq v hv,fun i e' hi he' hx hq => by
    have hq : dst e' = q.1 i:=hq
    have r0:=cB_0 m ((kq (q.1 i) (q2 i hi)).mp ⟨i,hi,rfl⟩) e' he'
    simp [hx,hq] at r0⟩
  generalize tpH x src dst m 32 0 (tpI x dst m 0 (fun _ => 0),q) = s at *
  obtain ⟨j1,j2,j3,j4,j5,j6⟩:=hJ
  -- every vertex is in the queue
  have all : ∀ v,v < n→∃ i,i < s.2.2∧s.2.1 i = v:=by
    intro v hv
    by_cases c : ∃ i,i < s.2.2∧s.2.1 i = v
    · exact c
    · exfalso
      obtain ⟨w,hw,cw,mw⟩:=min_ex (q:=fun v => ¬ ∃ i,i < s.2.2∧s.2.1 i = v) (key:=key) 200000000 n v hv c (fun w hw _ => (hk w hw).1) (by have:=hk v hv; omega)
      have : cB (rem x src dst s.2.1 s.2.2 u' 0 w) m ≠ 0:=fun q => cw ((j5 w hw).mpr q)
      obtain ⟨e,he,re⟩:=cB_pos m this
      unfold rem at re
      simp at re
      obtain ⟨⟨r1,r2⟩,r3⟩:=re
      have ns : ¬ ∃ i,i < s.2.2∧s.2.1 i = src e:=fun q => by rw [(inP_iff s.2.2).mpr q] at r3; cases r3
      have:=mw (src e) (hsd e he).1 ns
      have:=hkey e he r1
      rw [r2] at this
      omega
  have le : n≤s.2.2:=by
    -- the places of 0 .. n-1
    have ex : ∀ v,∃ i,v < n→i < s.2.2∧s.2.1 i = v:=fun v => by
      by_cases h : v < n
      · obtain ⟨i,hi⟩:=all v h
        exact ⟨i,fun _ => hi⟩
      · exact ⟨0,fun q => absurd q h⟩
    obtain ⟨g,hg⟩ : ∃ g : Nat→Nat,∀ v,v < n→g v < s.2.2∧s.2.1 (g v) = v:=⟨fun v => Classical.choose (ex v),fun v => Classical.choose_spec (ex v)⟩
    exact PH s.2.2 n g (fun v hv => (hg v hv).1) (fun a c ha hc e => by rw [← (hg a ha).2,← (hg c hc).2,e])
  omega
end Full
/-! Bellman and Ford finds a solution where there is one -/
section BFC
variable {n m : Nat} {reg vdel : Nat→Int32} {src dst : Nat→Nat} {r : PR} {c : Int32}
/-- the constraints: u at most v plus b -/
def KB (n m : Nat) (reg vdel : Nat→Int32) (src dst : Nat→Nat) (r : PR) (c : Int32) (u v : Nat) (b : Int) : Prop :=
  (∃ e,e < m∧src e = u∧dst e = v∧b = (reg e).toInt) ∨ (u < n∧v < n∧r.1 (u * 32 + v) = true∧c < r.2.2 (u * 32 + v) + vdel v∧b = (r.2.1 (u * 32 + v)).toInt - 1)
def SOL (n m : Nat) (reg vdel : Nat→Int32) (src dst : Nat→Nat) (r : PR) (c : Int32) (D : Nat→Int) : Prop:=(∀ v,v < n→-1000000≤D v∧D v≤0)∧∀ u v b,KB n m reg vdel src dst r c u v b→D u≤D v + b
def IVl (n : Nat) (D : Nat→Int) (d s : Nat→Int32) : Prop:=∀ v,v < n→D v≤(s v).toInt∧(s v).toInt≤(d v).toInt
theorem rpE_b {D : Nat→Int} {d : Nat→Int32} (hrg : ∀ e,e < m→0≤(reg e).toInt∧(reg e).toInt≤7) (hsd : ∀ e,e < m→src e < n∧dst e < n) (hD : SOL n m reg vdel src dst r c D) (hd : ∀ v,v < n→(d v).toInt≤0) : ∀ (k e : Nat) (s : DC),e + k = m→IVl n D d s.1→(∀ e',e' < e→(s.1 (src e')).toInt≤(d (dst e')).toInt + (reg e').toInt)→IVl n D d (rpE reg src dst k e s).1∧(∀ e',e' < m→((rpE reg src dst k e s).1 (src e')).toInt≤(d (dst e')).toInt + (reg e').toInt):=by
  intro k
  induction k with
  | zero =>
    intro e s er h1 h2
    obtain rfl : e = m:=by omega
    exact ⟨h1,h2⟩
  | succ k ih =>
    intro e s er h1 h2
    have rg:=hrg e (by omega)
    have sd:=hsd e (by omega)
    have a1:=h1 (dst e) sd.2
    have a2:=h1 (src e) sd.1
    have a3:=hD.1 (dst e) sd.2
    have a4:=hD.1 (src e) sd.1
    have a5:=hd (dst e) sd.2
    have a6:=hD.2 (src e) (dst e) (reg e).toInt (Or.inl ⟨e,by omega,rfl,rfl,rfl⟩)
    have es : (s.1 (dst e) + reg e).toInt = (s.1 (dst e)).toInt + (reg e).toInt:=add_i (by omega) (by omega)
    rw [rpE]
    by_cases z : s.1 (dst e) + reg e < s.1 (src e)
    · rw [if_pos z]
      rw [lt_i,es] at z
      have od : ∀ v,v < n→(ou s.1 (src e) (s.1 (dst e) + reg e) v).toInt≤(s.1 v).toInt:=fun v hv => by
        rw [ou_a]; split
        · rename_i q; rw [q,es]; omega
        · exact Int.le_refl _
      refine ih (e + 1) (ou s.1 (src e) (s.1 (dst e) + reg e),true) (by omega) (fun v hv => ?_) (fun e' he' => ?_)
      · have:=od v hv
        have h:=h1 v hv
        refine ⟨?_,by show (ou s.1 (src e) (s.1 (dst e) + reg e) v).toInt≤_; omega⟩
        show D v≤(ou s.1 (src e) (s.1 (dst e) + reg e) v).toInt
        rw [ou_a]; split
        · rename_i q; rw [q,es]; omega
        · exact h.1
      · show (ou s.1 (src e) (s.1 (dst e) + reg e) (src e')).toInt≤_
        by_cases q : e' = e
        · subst q
          rw [ou_a,if_pos rfl,es]; omega
        · have:=od (src e') (hsd e' (by omega)).1
          have:=h2 e' (by omega)
          omega
    · rw [if_neg z]
      rw [lt_i,es] at z
      refine ih (e + 1) s (by omega) h1 (fun e' he' => ?_)
      by_cases q : e' = e
      · subst q; omega
      · exact h2 e' (by omega)
theorem rpV_b {D : Nat→Int} {d : Nat→Int32} {u : Nat} (hu : u < n) (hwt : ∀ a b,a < n→b < n→r.1 (a * 32 + b) = true→0≤(r.2.1 (a * 32 + b)).toInt∧(r.2.1 (a * 32 + b)).toInt≤231) (hD : SOL n m reg vdel src dst r c D) (hd : ∀ v,v < n→(d v).toInt≤0) : ∀ (k v : Nat) (s : DC),v + k = n→IVl n D d s.1→(∀ w,w < n→((rpV r vdel c u k v s).1 w).toInt≤(s.1 w).toInt)∧IVl n D d (rpV r vdel c u k v s).1∧(∀ v',v≤v'→v' < n→r.1 (u * 32 + v') = true→c < r.2.2 (u * 32 + v') + vdel v'→((rpV r vdel c u k v s).1 u).toInt≤(d v').toInt + ((r.2.1 (u * 32 + v')).toInt - 1)):=by
  intro k
  induction k with
  | zero =>
    intro v s er h1
    exact ⟨fun w _ => Int.le_refl _,h1,fun v' q1 q2 => absurd q2 (by omega)⟩
  | succ k ih =>
    intro v s er h1
    rw [rpV]
    by_cases z : r.1 (u * 32 + v) = true∧c < r.2.2 (u * 32 + v) + vdel v
    · rw [if_pos z]
      have w:=hwt u v hu (by omega) z.1
      have a1:=h1 v (by omega)
      have a2:=h1 u hu
      have a3:=hD.1 v (by omega)
      have a4:=hD.1 u hu
      have a5:=hd v (by omega)
      have a6:=hD.2 u v ((r.2.1 (u * 32 + v)).toInt - 1) (Or.inr ⟨hu,by omega,z.1,z.2,rfl⟩)
      have e1 : (s.1 v + r.2.1 (u * 32 + v)).toInt = (s.1 v).toInt + (r.2.1 (u * 32 + v)).toInt:=add_i (by omega) (by omega)
      have e2 : (s.1 v + r.2.1 (u * 32 + v) - 1).toInt = (s.1 v).toInt + (r.2.1 (u * 32 + v)).toInt - 1:=by
        have i1 : (1 : Int32).toInt = 1:=rfl
        have:=sub_i (a:=s.1 v + r.2.1 (u * 32 + v)) (b:=1) (by omega) (by omega)
        rw [this,e1,i1]
      by_cases y : s.1 v + r.2.1 (u * 32 + v) - 1 < s.1 u
      · rw [if_pos y]
        rw [lt_i,e2] at y
        have od : ∀ v',v' < n→(ou s.1 u (s.1 v + r.2.1 (u * 32 + v) - 1) v').toInt≤(s.1 v').toInt:=fun v' hv' => by
          rw [ou_a]; split
          · rename_i q; rw [q,e2]; omega
          · exact Int.le_refl _
        obtain ⟨i1,i2,i3⟩:=ih (v + 1) (ou s.1 u (s.1 v + r.2.1 (u * 32 + v) - 1),true) (by omega) (fun v' hv' => by
          have:=od v' hv'
          have h:=h1 v' hv'
          refine ⟨?_,by show (ou s.1 u (s.1 v + r.2.1 (u * 32 + v) - 1) v').toInt≤_; omega⟩
          show D v'≤(ou s.1 u (s.1 v + r.2.1 (u * 32 + v) - 1) v').toInt
          rw [ou_a]; split
          · rename_i q; rw [q,e2]; omega
          · exact h.1)
        refine ⟨fun w hw => Int.le_trans (i1 w hw) (od w hw),i2,fun v' q1 q2 q3 q4 => ?_⟩
        by_cases q : v' = v
        · subst q
          have:=i1 u hu
          have e : (ou s.1 u (s.1 v' + r.2.1 (u * 32 + v') - 1) u).toInt = (s.1 v').toInt + (r.2.1 (u * 32 + v')).toInt - 1:=by rw [ou_a,if_pos rfl,e2]
          have this : ((rpV r vdel c u k (v' + 1) (ou s.1 u (s.1 v' + r.2.1 (u * 32 + v') - 1),true)).1 u).toInt≤(ou s.1 u (s.1 v' + r.2.1 (u * 32 + v') - 1) u).toInt:=this
          omega
        · exact i3 v' (by omega) q2 q3 q4
      · rw [if_neg y]
        rw [lt_i,e2] at y
        obtain ⟨i1,i2,i3⟩:=ih (v + 1) s (by omega) h1
        refine ⟨i1,i2,fun v' q1 q2 q3 q4 => ?_⟩
        by_cases q : v' = v
        · subst q
          have:=i1 u hu
          omega
        · exact i3 v' (by omega) q2 q3 q4
    · rw [if_neg z]
      obtain ⟨i1,i2,i3⟩:=ih (v + 1) s (by omega) h1
      refine ⟨i1,i2,fun v' q1 q2 q3 q4 => ?_⟩
      by_cases q : v' = v
      · subst q; exact absurd ⟨q3,q4⟩ z
      · exact i3 v' (by omega) q2 q3 q4
theorem rpU_b {D : Nat→Int} {d : Nat→Int32} (hwt : ∀ a b,a < n→b < n→r.1 (a * 32 + b) = true→0≤(r.2.1 (a * 32 + b)).toInt∧(r.2.1 (a * 32 + b)).toInt≤231) (hD : SOL n m reg vdel src dst r c D) (hd : ∀ v,v < n→(d v).toInt≤0) : ∀ (k u : Nat) (s : DC),u + k = n→IVl n D d s.1→(∀ w,w < n→((rpU n r vdel c k u s).1 w).toInt≤(s.1 w).toInt)∧IVl n D d (rpU n r vdel c k u s).1∧(∀ u' v',u≤u'→u' < n→v' < n→r.1 (u' * 32 + v') = true→c < r.2.2 (u' * 32 + v') + vdel v'→((rpU n r vdel c k u s).1 u').toInt≤(d v').toInt + ((r.2.1 (u' * 32 + v')).toInt - 1)):=by
  intro k
  induction k with
  | zero => intro u s er h1; exact ⟨fun w _ => Int.le_refl _,h1,fun u' v' q1 q2 => absurd q2 (by omega)⟩
  | succ k ih =>
    intro u s er h1
    rw [rpU]
    obtain ⟨a1,a2,a3⟩:=rpV_b (m:=m) (reg:=reg) (src:=src) (dst:=dst) (vdel:=vdel) (c:=c) (d:=d) (by omega : u < n) hwt hD hd n 0 s (by omega) h1
    obtain ⟨i1,i2,i3⟩:=ih (u + 1) _ (by omega) a2
    refine ⟨fun w hw => Int.le_trans (i1 w hw) (a1 w hw),i2,fun u' v' q1 q2 q3 q4 q5 => ?_⟩
    by_cases q : u' = u
    · subst q
      exact Int.le_trans (i1 u' q2) (a3 v' (by omega) q3 q4 q5)
    · exact i3 u' v' (by omega) q2 q3 q4 q5
theorem rpass_b {D : Nat→Int} {d : Nat→Int32} (hrg : ∀ e,e < m→0≤(reg e).toInt∧(reg e).toInt≤7) (hsd : ∀ e,e < m→src e < n∧dst e < n) (hwt : ∀ a b,a < n→b < n→r.1 (a * 32 + b) = true→0≤(r.2.1 (a * 32 + b)).toInt∧(r.2.1 (a * 32 + b)).toInt≤231) (hD : SOL n m reg vdel src dst r c D) (hd : ∀ v,v < n→D v≤(d v).toInt∧(d v).toInt≤0) :
    IVl n D d (rpass n m reg vdel src dst r c d).1∧(∀ u v b,KB n m reg vdel src dst r c u v b→((rpass n m reg vdel src dst r c d).1 u).toInt≤(d v).toInt + b):=by
  unfold rpass
  obtain ⟨e1,e2⟩:=rpE_b hrg hsd hD (fun v hv => (hd v hv).2) m 0 (d,false) (by omega) (fun v hv => ⟨(hd v hv).1,Int.le_refl _⟩) (fun e' he' => absurd he' (by omega))
  obtain ⟨u1,u2,u3⟩:=rpU_b (m:=m) (reg:=reg) (src:=src) (dst:=dst) (vdel:=vdel) (c:=c) (d:=d) hwt hD (fun v hv => (hd v hv).2) n 0 _ (by omega) e1
  refine ⟨u2,fun u v b hk => ?_⟩
  rcases hk with ⟨e,he,rfl,rfl,rfl⟩ | ⟨h1,h2,h3,h4,rfl⟩
  · exact Int.le_trans (u1 _ (hsd e he).1) (e2 e he)
  · exact u3 u v (by omega) h1 h2 h3 h4
theorem rpass_i {d : Nat→Int32} (hrg : ∀ e,e < m→0≤(reg e).toInt∧(reg e).toInt≤7) (hsd : ∀ e,e < m→src e < n∧dst e < n) (hwt : ∀ a b,a < n→b < n→r.1 (a * 32 + b) = true→0≤(r.2.1 (a * 32 + b)).toInt∧(r.2.1 (a * 32 + b)).toInt≤231) (hd : ∀ v,v < n→-1000000≤(d v).toInt∧(d v).toInt≤0) (hk : ∀ u v b,KB n m reg vdel src dst r c u v b→(d u).toInt≤(d v).toInt + b) : rpass n m reg vdel src dst r c d = (d,false):=by
  unfold rpass
  have i1 : rpE reg src dst m 0 (d,false) = (d,false):=rpE_id (m:=m) m 0 (by omega) (fun e he => by
    have sd:=hsd e he
    have rg:=hrg e he
    have b1:=hd (dst e) sd.2
    have:=hk _ _ _ (Or.inl ⟨e,he,rfl,rfl,rfl⟩)
    have es : (d (dst e) + reg e).toInt = (d (dst e)).toInt + (reg e).toInt:=add_i (by omega) (by omega)
    show ¬ d (dst e) + reg e < d (src e)
    rw [lt_i,es]
    omega)
  rw [i1]
  exact rpU_id n 0 (by omega) (fun u v hu hv hr hc => by
    have w:=hwt u v hu hv hr
    have b1:=hd v hv
    have:=hk u v _ (Or.inr ⟨hu,hv,hr,hc,rfl⟩)
    have e1 : (d v + r.2.1 (u * 32 + v)).toInt = (d v).toInt + (r.2.1 (u * 32 + v)).toInt:=add_i (by omega) (by omega)
    have e2 : (d v + r.2.1 (u * 32 + v) - 1).toInt = (d v).toInt + (r.2.1 (u * 32 + v)).toInt - 1:=by
      have i1 : (1 : Int32).toInt = 1:=rfl
      have:=sub_i (a:=d v + r.2.1 (u * 32 + v)) (b:=1) (by omega) (by omega)
      rw [this,e1,i1]
    show ¬ d v + r.2.1 (u * 32 + v) - 1 < d u
    rw [lt_i,e2]
    omega)
/-- the passes one after the other -/
def itP (n m : Nat) (reg vdel : Nat→Int32) (src dst : Nat→Nat) (r : PR) (c : Int32) : Nat→Nat→Int32
  | 0 => fun _ => 0
  | k + 1 => (rpass n m reg vdel src dst r c (itP n m reg vdel src dst r c k)).1
theorem fea_t : ∀ (f j : Nat) (k : Nat),j < f→(rpass n m reg vdel src dst r c (itP n m reg vdel src dst r c (k + j))).2 = false→(feaL n m reg vdel src dst r c f (itP n m reg vdel src dst r c k)).2 = true:=by
  intro f
  induction f with
  | zero => intro j k h; omega
  | succ f ih =>
    intro j k h hf
    rw [feaL]
    by_cases z : (rpass n m reg vdel src dst r c (itP n m reg vdel src dst r c k)).2 = true
    · rw [if_pos z]
      cases j with
      | zero => rw [Nat.add_zero] at hf; rw [hf] at z; cases z
      | succ j =>
        have : (rpass n m reg vdel src dst r c (itP n m reg vdel src dst r c k)).1 = itP n m reg vdel src dst r c (k + 1):=rfl
        rw [this]
        exact ih j (k + 1) (by omega) (by rw [show k + 1 + j = k + (j + 1) by omega]; exact hf)
    · rw [if_neg z]
/-- sum of the values below k -/
def smv (d : Nat→Int32) : Nat→Int
  | 0 => 0
  | k + 1 => smv d k + (d k).toInt
theorem bf_c (hn : n≤32) (hrg : ∀ e,e < m→0≤(reg e).toInt∧(reg e).toInt≤7) (hsd : ∀ e,e < m→src e < n∧dst e < n) (hwt : ∀ a b,a < n→b < n→r.1 (a * 32 + b) = true→0≤(r.2.1 (a * 32 + b)).toInt∧(r.2.1 (a * 32 + b)).toInt≤231) {D : Nat→Int} (hD : SOL n m reg vdel src dst r c D) : (feas n m reg vdel src dst r c).2 = true:=by
  -- every pass stays above every solution
  have ab : ∀ {D : Nat→Int},SOL n m reg vdel src dst r c D→∀ k v,v < n→D v≤(itP n m reg vdel src dst r c k v).toInt∧(itP n m reg vdel src dst r c k v).toInt≤0:=by
    intro D hD k
    induction k with
    | zero => intro v hv; exact ⟨(hD.1 v hv).2,by show (0 : Int32).toInt≤0; decide⟩
    | succ k ih =>
      intro v hv
      have q:=(rpass_b hrg hsd hwt hD ih).1 v hv
      have:=ih v hv
      exact ⟨q.1,Int.le_trans q.2 this.2⟩
  have dn : ∀ k v,v < n→(itP n m reg vdel src dst r c (k + 1) v).toInt≤(itP n m reg vdel src dst r c k v).toInt:=fun k v hv => ((rpass_b hrg hsd hwt hD (ab hD k)).1 v hv).2
  have kb : ∀ k u v b,KB n m reg vdel src dst r c u v b→(itP n m reg vdel src dst r c (k + 1) u).toInt≤(itP n m reg vdel src dst r c k v).toInt + b:=fun k => (rpass_b hrg hsd hwt hD (ab hD k)).2
  have kn : ∀ u v b,KB n m reg vdel src dst r c u v b→u < n∧v < n:=fun u v b h => by
    rcases h with ⟨e,he,rfl,rfl,_⟩ | ⟨h1,h2,_⟩
    · exact hsd e he
    · exact ⟨h1,h2⟩
  -- stillness makes a solution
  have still : ∀ k,(∀ v,v < n→(itP n m reg vdel src dst r c (k + 1) v).toInt = (itP n m reg vdel src dst r c k v).toInt)→SOL n m reg vdel src dst r c (fun v => (itP n m reg vdel src dst r c k v).toInt):=fun k h => ⟨fun v hv => ⟨by have:=ab hD k v hv; have:=hD.1 v hv; show -1000000≤(itP n m reg vdel src dst r c k v).toInt; omega,(ab hD k v hv).2⟩,fun u v b q => by
    have:=kb k u v b q
    have e:=h u (kn u v b q).1
    show (itP n m reg vdel src dst r c k u).toInt≤(itP n m reg vdel src dst r c k v).toInt + b
    omega⟩
  -- some pass stands still
  have ex : ∃ N,∀ v,v < n→(itP n m reg vdel src dst r c (N + 1) v).toInt = (itP n m reg vdel src dst r c N v).toInt:=by
    have smle : ∀ (f g : Nat→Int32) k,(∀ v,v < k→(f v).toInt≤(g v).toInt)→smv f k≤smv g k∧(smv f k = smv g k→∀ v,v < k→(f v).toInt = (g v).toInt):=by
      intro f g k
      induction k with
      | zero => intro _; exact ⟨Int.le_refl _,fun _ v hv => by omega⟩
      | succ k ih =>
        intro h
        obtain ⟨i1,i2⟩:=ih (fun v hv => h v (by omega))
        have hk:=h k (by omega)
        rw [smv,smv]
        refine ⟨by omega,fun e v hv => ?_⟩
        by_cases q : v = k
        · subst q; omega
        · exact i2 (by omega) v (by omega)
    have smlo : ∀ k j,j≤n→-1000000 * (j : Int)≤smv (itP n m reg vdel src dst r c k) j:=by
      intro k j
      induction j with
      | zero => intro _; show -1000000 * ((0 : Nat) : Int)≤0; omega
      | succ j ih =>
        intro hj
        have:=ih (by omega)
        have a:=ab hD k j (by omega)
        have b:=hD.1 j (by omega)
        rw [smv]
        omega
    have go : ∀ (N k : Nat),smv (itP n m reg vdel src dst r c k) n + 1000000 * (n : Int) < N→∃ N,∀ v,v < n→(itP n m reg vdel src dst r c (N + 1) v).toInt = (itP n m reg vdel src dst r c N v).toInt:=by
      intro N
      induction N with
      | zero => intro k h; have:=smlo k n (Nat.le_refl _); omega
      | succ N ih =>
        intro k h
        obtain ⟨i1,i2⟩:=smle (itP n m reg vdel src dst r c (k + 1)) (itP n m reg vdel src dst r c k) n (fun v hv => dn k v hv)
        by_cases q : smv (itP n m reg vdel src dst r c (k + 1)) n = smv (itP n m reg vdel src dst r c k) n
        · exact ⟨k,i2 q⟩
        · exact ih (k + 1) (by omega)
    exact go ((smv (itP n m reg vdel src dst r c 0) n + 1000000 * (n : Int)).toNat + 1) 0 (by omega)
  obtain ⟨N,hN⟩:=ex
  have hS:=still N hN
  -- the still values are the greatest solution
  obtain ⟨G,hG⟩ : ∃ G : Nat→Int,∀ v,G v = (itP n m reg vdel src dst r c N v).toInt:=⟨_,fun _ => rfl⟩
  have hSG : SOL n m reg vdel src dst r c G:=⟨fun v hv => by rw [hG]; exact hS.1 v hv,fun u v b q => by rw [hG,hG]; exact hS.2 u v b q⟩
  have gr : ∀ {D : Nat→Int},SOL n m reg vdel src dst r c D→∀ v,v < n→D v≤G v:=fun h v hv => by rw [hG]; exact (ab h N v hv).1
  -- after k passes at least k values are final
  have cnt : ∀ k,k≤n→k≤cB (fun v => decide ((itP n m reg vdel src dst r c k v).toInt = G v)) n:=by
    intro k
    induction k with
    | zero => intro _; omega
    | succ k ih =>
      intro hk
      have ihk:=ih (by omega)
      have mono : ∀ v,v < n→decide ((itP n m reg vdel src dst r c k v).toInt = G v) = true→decide ((itP n m reg vdel src dst r c (k + 1) v).toInt = G v) = true:=fun v hv q => by
        rw [decide_eq_true_eq] at q ⊢
        have:=dn k v hv
        have:=(ab hSG (k + 1) v hv).1
        omega
      by_cases same : ∃ v,v < n∧(itP n m reg vdel src dst r c (k + 1) v).toInt = G v∧¬ (itP n m reg vdel src dst r c k v).toInt = G v
      · obtain ⟨v,hv,q1,q2⟩:=same
        have h1:=cB_rm (p:=fun v => decide ((itP n m reg vdel src dst r c (k + 1) v).toInt = G v)) n hv (by rw [decide_eq_true_eq]; exact q1)
        have h2 : cB (fun v => decide ((itP n m reg vdel src dst r c k v).toInt = G v)) n≤cB (fun i => decide ((itP n m reg vdel src dst r c (k + 1) i).toInt = G i) && decide (i ≠ v)) n:=cB_mono n (fun i hi q => by
          show (decide ((itP n m reg vdel src dst r c (k + 1) i).toInt = G i) && decide (i ≠ v)) = true
          rw [mono i hi q,Bool.true_and,decide_eq_true_eq]
          intro e
          rw [e] at q
          exact q2 (of_decide_eq_true q))
        omega
      · -- then the rest can be raised, unless there is none
        have all : ∀ v,v < n→(itP n m reg vdel src dst r c k v).toInt = G v:=by
          intro v hv
          by_cases q : (itP n m reg vdel src dst r c k v).toInt = G v
          · exact q
          · exfalso
            have sol : SOL n m reg vdel src dst r c (fun v => if (itP n m reg vdel src dst r c k v).toInt = G v then G v else G v + 1):=by
              refine ⟨fun w hw => ?_,fun a b e h => ?_⟩
              · have g:=hSG.1 w hw
                have a:=ab hSG k w hw
                show -1000000≤(if (itP n m reg vdel src dst r c k w).toInt = G w then G w else G w + 1)∧(if (itP n m reg vdel src dst r c k w).toInt = G w then G w else G w + 1)≤0
                split <;> omega
              · have ⟨ha,hb⟩:=kn a b e h
                have g:=hSG.2 a b e h
                show (if (itP n m reg vdel src dst r c k a).toInt = G a then G a else G a + 1)≤(if (itP n m reg vdel src dst r c k b).toInt = G b then G b else G b + 1) + e
                by_cases x1 : (itP n m reg vdel src dst r c k a).toInt = G a
                · rw [if_pos x1]; split <;> omega
                · rw [if_neg x1]
                  by_cases x2 : (itP n m reg vdel src dst r c k b).toInt = G b
                  · rw [if_pos x2]
                    have y1:=kb k a b e h
                    have y2 : ¬ (itP n m reg vdel src dst r c (k + 1) a).toInt = G a:=fun z => same ⟨a,ha,z,x1⟩
                    have y3:=(ab hSG (k + 1) a ha).1
                    omega
                  · rw [if_neg x2]; omega
            have:=gr sol v hv
            have this : (if (itP n m reg vdel src dst r c k v).toInt = G v then G v else G v + 1)≤G v:=this
            rw [if_neg q] at this
            omega
        have full : cB (fun v => decide ((itP n m reg vdel src dst r c (k + 1) v).toInt = G v)) n = cB (fun _ => true) n:=cB_ext n (fun v hv => mono v hv (decide_eq_true (all v hv)))
        have tr : ∀ j,cB (fun _ => true) j = j:=by
          intro j
          induction j with
          | zero => rfl
          | succ j ih => rw [cB,ih]; rfl
        rw [full,tr]
        exact hk
  have fin:=cnt n (Nat.le_refl _)
  have allG : ∀ v,v < n→(itP n m reg vdel src dst r c n v).toInt = G v:=by
    intro v hv
    by_cases q : (itP n m reg vdel src dst r c n v).toInt = G v
    · exact q
    · exfalso
      have h1 : cB (fun v => decide ((itP n m reg vdel src dst r c n v).toInt = G v)) n≤cB (fun i => true && decide (i ≠ v)) n:=cB_mono n (fun i hi z => by
        show (true && decide (i ≠ v)) = true
        rw [Bool.true_and,decide_eq_true_eq]
        intro e
        rw [e] at z
        exact q (of_decide_eq_true z))
      have h2:=cB_rm (p:=fun _ => true) n hv rfl
      have h3:=cB_le (fun _ => true) n
      omega
  have idn:=rpass_i (vdel:=vdel) (c:=c) hrg hsd hwt (d:=itP n m reg vdel src dst r c n) (fun v hv => by rw [allG v hv]; exact hSG.1 v hv) (fun u v b q => by
    rw [allG u (kn u v b q).1,allG v (kn u v b q).2]
    exact hSG.2 u v b q)
  unfold feas
  exact fea_t (n + 2) n 0 (by omega) (by rw [Nat.zero_add,idn])
end BFC
section Flag
variable {n m : Nat} {reg vdel : Nat→Int32} {src dst : Nat→Nat} {r : PR} {c : Int32}
theorem rpV_f {u : Nat} : ∀ (k v : Nat) (s : DC),v + k = n→(rpV r vdel c u k v s).2 = false→s.2 = false∧(rpV r vdel c u k v s).1 = s.1∧∀ v',v≤v'→v' < n→r.1 (u * 32 + v') = true→c < r.2.2 (u * 32 + v') + vdel v'→¬ s.1 v' + r.2.1 (u * 32 + v') - 1 < s.1 u:=by
  intro k
  induction k with
  | zero => intro v s e h; exact ⟨h,rfl,fun v' q1 q2 => absurd q2 (by omega)⟩
  | succ k ih =>
    intro v s e h
    rw [rpV] at h ⊢
    by_cases z : r.1 (u * 32 + v) = true∧c < r.2.2 (u * 32 + v) + vdel v
    · rw [if_pos z] at h ⊢
      by_cases y : s.1 v + r.2.1 (u * 32 + v) - 1 < s.1 u
      · rw [if_pos y] at h
        have:=(ih (v + 1) _ (by omega) h).1
        cases this
      · rw [if_neg y] at h ⊢
        obtain ⟨i1,i2,i3⟩:=ih (v + 1) s (by omega) h
        refine ⟨i1,i2,fun v' q1 q2 q3 q4 => ?_⟩
        by_cases q : v' = v
        · subst q; exact y
        · exact i3 v' (by omega) q2 q3 q4
    · rw [if_neg z] at h ⊢
      obtain ⟨i1,i2,i3⟩:=ih (v + 1) s (by omega) h
      refine ⟨i1,i2,fun v' q1 q2 q3 q4 => ?_⟩
      by_cases q : v' = v
      · subst q; exact absurd ⟨q3,q4⟩ z
      · exact i3 v' (by omega) q2 q3 q4
theorem rpU_f : ∀ (k u : Nat) (s : DC),u + k = n→(rpU n r vdel c k u s).2 = false→s.2 = false∧(rpU n r vdel c k u s).1 = s.1∧∀ u' v',u≤u'→u' < n→v' < n→r.1 (u' * 32 + v') = true→c < r.2.2 (u' * 32 + v') + vdel v'→¬ s.1 v' + r.2.1 (u' * 32 + v') - 1 < s.1 u':=by
  intro k
  induction k with
  | zero => intro u s e h; exact ⟨h,rfl,fun u' v' q1 q2 => absurd q2 (by omega)⟩
  | succ k ih =>
    intro u s e h
    rw [rpU] at h ⊢
    obtain ⟨i1,i2,i3⟩:=ih (u + 1) _ (by omega) h
    obtain ⟨j1,j2,j3⟩:=rpV_f (n:=n) n 0 s (by omega) i1
    refine ⟨j1,i2.trans j2,fun u' v' q1 q2 q3 q4 q5 => ?_⟩
    by_cases q : u' = u
    · subst q; exact j3 v' (by omega) q3 q4 q5
    · have:=i3 u' v' (by omega) q2 q3 q4 q5
      rw [j2] at this
      exact this
theorem rpE_f : ∀ (k e : Nat) (s : DC),(rpE reg src dst k e s).2 = false→(rpE reg src dst k e s).1 = s.1∧s.2 = false:=by
  intro k
  induction k with
  | zero => intro e s h; exact ⟨rfl,h⟩
  | succ k ih =>
    intro e s h
    rw [rpE] at h ⊢
    by_cases z : s.1 (dst e) + reg e < s.1 (src e)
    · rw [if_pos z] at h
      have:=(ih _ _ h).2
      cases this
    · rw [if_neg z] at h ⊢
      exact ih _ _ h
theorem feaL_f : ∀ (f : Nat) (d : Nat→Int32),(feaL n m reg vdel src dst r c f d).2 = true→∀ u v,u < n→v < n→r.1 (u * 32 + v) = true→c < r.2.2 (u * 32 + v) + vdel v→¬ (feaL n m reg vdel src dst r c f d).1 v + r.2.1 (u * 32 + v) - 1 < (feaL n m reg vdel src dst r c f d).1 u:=by
  intro f
  induction f with
  | zero => intro d h; cases h
  | succ f ih =>
    intro d h
    rw [feaL] at h ⊢
    by_cases z : (rpass n m reg vdel src dst r c d).2 = true
    · rw [if_pos z] at h ⊢
      exact ih _ h
    · rw [if_neg z] at h ⊢
      have z' : (rpass n m reg vdel src dst r c d).2 = false:=by cases q : (rpass n m reg vdel src dst r c d).2 <;> simp_all
      intro u v hu hv hr hc
      have q1:=rpU_f n 0 _ (by omega) z'
      have q2:=rpE_f m 0 _ q1.1
      have q3:=q1.2.2 u v (by omega) hu hv hr hc
      have e : (rpass n m reg vdel src dst r c d).1 = d:=q1.2.1.trans q2.1
      show ¬ (rpass n m reg vdel src dst r c d).1 v + r.2.1 (u * 32 + v) - 1 < (rpass n m reg vdel src dst r c d).1 u
      rw [e]
      rw [q2.1] at q3
      exact q3
end Flag
theorem smin_d {fe : Int32→Bool} : ∀ (f a b : Nat),a≤b→b≤1000→b - a < 2 ^ f→fe (nI b) = true→(a = 0 ∨ fe (nI (a - 1)) = false)→∃ p,smin fe f (nI a) (nI b) = nI p∧p≤b∧fe (nI p) = true∧(p = 0 ∨ fe (nI (p - 1)) = false):=by
  intro f
  induction f with
  | zero =>
    intro a b h1 h2 h3 h4 h5
    obtain rfl : a = b:=by rw [Nat.pow_zero] at h3; omega
    exact ⟨a,rfl,Nat.le_refl _,h4,h5⟩
  | succ f ih =>
    intro a b h1 h2 h3 h4 h5
    rw [Nat.pow_succ] at h3
    rw [smin]
    by_cases z : a < b
    · have z1 : nI a < nI b:=(nI_lt (by omega) (by omega)).mpr z
      have em : nI a + (nI b - nI a) / 2 = nI (a + (b - a) / 2):=by rw [nI_sub h1,nI_hf (by omega),nI_add]
      rw [if_pos z1,em]
      by_cases y : fe (nI (a + (b - a) / 2)) = true
      · rw [if_pos y]
        obtain ⟨p,p1,p2,p3⟩:=ih a (a + (b - a) / 2) (by omega) (by omega) (by omega) y h5
        exact ⟨p,p1,by omega,p3⟩
      · rw [if_neg y,nI_1]
        have y' : fe (nI (a + (b - a) / 2)) = false:=by cases q : fe (nI (a + (b - a) / 2)) <;> simp_all
        exact ih (a + (b - a) / 2 + 1) b (by omega) h2 (by omega) h4 (Or.inr (by rw [Nat.add_sub_cancel]; exact y'))
    · have z1 : ¬ nI a < nI b:=fun q => z ((nI_lt (by omega) (by omega)).mp q)
      obtain rfl : a = b:=by omega
      rw [if_neg z1]
      exact ⟨a,rfl,Nat.le_refl _,h4,h5⟩
section Att
variable {n m : Nat} {x vdel : Nat→Int32} {src dst : Nat→Nat}
theorem peE_a {arr : Nat→Int32} {v : Nat} : ∀ (k e : Nat) (a : Int32),e + k = m→peE x vdel arr src dst v k e a = a ∨ ∃ e',e' < m∧x e' = 0∧dst e' = v∧peE x vdel arr src dst v k e a = arr (src e') + vdel v:=by
  intro k
  induction k with
  | zero => intro e a _; exact Or.inl rfl
  | succ k ih =>
    intro e a er
    rw [peE]
    by_cases z : dst e = v∧x e = 0
    · rw [if_pos z]
      by_cases y : a < arr (src e) + vdel v
      · rw [if_pos y]
        rcases ih (e + 1) (arr (src e) + vdel v) (by omega) with q | q
        · exact Or.inr ⟨e,by omega,z.2,z.1,q⟩
        · exact Or.inr q
      · rw [if_neg y]; exact ih (e + 1) a (by omega)
    · rw [if_neg z]; exact ih (e + 1) a (by omega)
def AT (n m : Nat) (x vdel : Nat→Int32) (src dst o : Nat→Nat) (i : Nat) (s : (Nat→Int32) × Int32) : Prop :=
  (∀ j,j < i→s.1 (o j) = vdel (o j) ∨ ∃ e,e < m∧x e = 0∧dst e = o j∧s.1 (o j) = s.1 (src e) + vdel (o j))∧(s.2 = 0 ∨ ∃ j,j < i∧s.2 = s.1 (o j))
theorem peI_a {o : Nat→Nat} (hinj : ∀ i j,i < n→j < n→o i = o j→i = j) (htop : ∀ i e,i < n→e < m→x e = 0→dst e = o i→∃ j,j < i∧o j = src e) : ∀ (r i : Nat) (s : (Nat→Int32) × Int32),i + r = n→AT n m x vdel src dst o i s→AT n m x vdel src dst o n (peI m x vdel src dst o r i s):=by
  intro r
  induction r with
  | zero =>
    intro i s er h
    obtain rfl : i = n:=by omega
    exact h
  | succ r ih =>
    intro i s er h
    obtain ⟨h1,h2⟩:=h
    rw [peI]
    have q:=peE_a (m:=m) (x:=x) (vdel:=vdel) (src:=src) (dst:=dst) (arr:=s.1) (v:=o i) m 0 (vdel (o i)) (by omega)
    generalize peE x vdel s.1 src dst (o i) m 0 (vdel (o i)) = a at *
    have od : ∀ j,j < n→j ≠ i→ou s.1 (o i) a (o j) = s.1 (o j):=fun j hj hne => by
      rw [ou_a,if_neg (fun z => hne (hinj j i hj (by omega) z))]
    have oi : ou s.1 (o i) a (o i) = a:=by rw [ou_a,if_pos rfl]
    refine ih (i + 1) (ou s.1 (o i) a,if s.2 < a then a else s.2) (by omega) ⟨fun j hj => ?_,?_⟩
    · show ou s.1 (o i) a (o j) = vdel (o j) ∨ ∃ e,e < m∧x e = 0∧dst e = o j∧ou s.1 (o i) a (o j) = ou s.1 (o i) a (src e) + vdel (o j)
      by_cases z : j = i
      · subst z
        rw [oi]
        rcases q with q | ⟨e,he,hx,hd,q⟩
        · exact Or.inl q
        · obtain ⟨j',hj',ej'⟩:=htop j e (by omega) he hx hd
          refine Or.inr ⟨e,he,hx,hd,?_⟩
          rw [← ej',od j' (by omega) (by omega),ej']
          exact q
      · rw [od j (by omega) z]
        rcases h1 j (by omega) with q | ⟨e,he,hx,hd,q⟩
        · exact Or.inl q
        · obtain ⟨j',hj',ej'⟩:=htop j e (by omega) he hx hd
          refine Or.inr ⟨e,he,hx,hd,?_⟩
          rw [← ej',od j' (by omega) (by omega),ej']
          exact q
    · show (if s.2 < a then a else s.2) = 0 ∨ ∃ j,j < i + 1∧(if s.2 < a then a else s.2) = ou s.1 (o i) a (o j)
      by_cases z : s.2 < a
      · rw [if_pos z]; exact Or.inr ⟨i,by omega,oi.symm⟩
      · rw [if_neg z]
        rcases h2 with q | ⟨j,hj,q⟩
        · exact Or.inl q
        · exact Or.inr ⟨j,by omega,by rw [od j (by omega) (by omega)]; exact q⟩
end Att
section Final
variable {n m : Nat} {reg vdel : Nat→Int32} {src dst : Nat→Nat}
/-- the retimed period is the least feasible one -/
theorem full_e (hn0 : 0 < n) (hn : n≤32) (hm : m≤64) (hsd : ∀ e,e < m→src e < n∧dst e < n) (hrg : ∀ e,e < m→0≤(reg e).toInt∧(reg e).toInt≤7) (hvd : ∀ v,v < n→0≤(vdel v).toInt∧(vdel v).toInt≤15) (hT : (cO n m reg src dst).2 = n) :
    ∃ p,cM n m vdel reg src dst = nI p∧cP1 n m vdel reg src dst = nI p∧(p : Int)≤(cP n m vdel reg src dst).2.toInt∧p≤480∧(∀ v,v < n→(vdel v).toInt≤p)∧(∀ e,e < m→0≤(cX n m vdel reg src dst e).toInt)∧(∀ a,a < n→(cR n m vdel reg src dst).1 (a * 32 + a) = true∧((cR n m vdel reg src dst).2.1 (a * 32 + a)).toInt = 0∧0≤((cR n m vdel reg src dst).2.2 (a * 32 + a)).toInt∧((cR n m vdel reg src dst).2.2 (a * 32 + a)).toInt≤480)∧(topo n m (cX n m vdel reg src dst) src dst (cO n m reg src dst).1).2 = n∧(p = 0 ∨ (feas n m reg vdel src dst (cR n m vdel reg src dst) (nI (p - 1))).2 = false):=by
  obtain ⟨k1,k2,k3,k4⟩:=topo_KO (x:=reg) hn hm hsd (fun _ => 0)
  have hT' : (topo n m reg src dst (fun _ => 0)).2 = n:=hT
  rw [hT'] at k1 k2 k3 k4
  obtain ⟨p1,p2,p3,p4⟩:=per_c (arr:=fun _ => 0) hn hvd k2 k3 (fun i e hi he hx hd => k4 i e hi he hx hd) hsd
  have ePP : peI m reg vdel src dst (topo n m reg src dst (fun _ => 0)).1 n 0 (fun _ => 0,0) = cP n m vdel reg src dst:=rfl
  rw [ePP] at p1 p2 p3 p4
  obtain ⟨A,hA⟩ : ∃ A,A = cP n m vdel reg src dst:=⟨_,rfl⟩
  rw [← hA] at p1 p2 p3 p4 ⊢
  have hφ : ∀ v,v < n→0≤(A.1 v).toInt - (vdel v).toInt∧(A.1 v).toInt - (vdel v).toInt≤480:=fun v hv => by
    have:=p1 v hv
    have:=hvd v hv
    omega
  have hφe : ∀ e,e < m→(reg e).toInt = 0→0≤(vdel (src e)).toInt∧(vdel (src e)).toInt≤((A.1 (dst e)).toInt - (vdel (dst e)).toInt) - ((A.1 (src e)).toInt - (vdel (src e)).toInt):=fun e he hz => by
    have z : reg e = 0:=Int32.toInt_inj.mp hz
    have:=p2 e he z
    have:=hvd (src e) (hsd e he).1
    omega
  obtain ⟨q1,q2⟩:=pairs_c (reg:=reg) (vdel:=vdel) (src:=src) (dst:=dst) (φ:=fun v => (A.1 v).toInt - (vdel v).toInt) hn hrg hsd (fun v hv => by have:=hφ v hv; show 0≤(A.1 v).toInt - (vdel v).toInt∧(A.1 v).toInt - (vdel v).toInt≤1000; omega) hφe
  have eR : pairs n m reg vdel src dst = cR n m vdel reg src dst:=rfl
  rw [eR] at q1 q2
  have hwt : ∀ a b,a < n→b < n→(cR n m vdel reg src dst).1 (a * 32 + b) = true→0≤((cR n m vdel reg src dst).2.1 (a * 32 + b)).toInt∧((cR n m vdel reg src dst).2.1 (a * 32 + b)).toInt≤231:=fun a b ha hb hr => ⟨(q1 a b ha hb hr).1,q2 a b ha hb hr⟩
  obtain ⟨bk,hbk,eb⟩:=rng (x:=A.2) (n:=481) p3 (by omega)
  have eb' : A.2 = nI bk:=eb
  have ebI : A.2.toInt = bk:=by rw [eb']; exact nI_int (by omega)
  have top : (feas n m reg vdel src dst (cR n m vdel reg src dst) (nI bk)).2 = true:=bf_c hn hrg hsd hwt (D:=fun _ => 0) ⟨fun v _ => ⟨by show (-1000000 : Int)≤0; omega,by show (0 : Int)≤0; omega⟩,fun u v b hk => by
    show (0 : Int)≤0 + b
    rcases hk with ⟨e,he,rfl,rfl,rfl⟩ | ⟨hu,hv,hr,hc,rfl⟩
    · have:=hrg e he; omega
    · have w:=hwt u v hu hv hr
      by_cases z : ((cR n m vdel reg src dst).2.1 (u * 32 + v)).toInt = 0
      · exfalso
        have dd:=(q1 u v hu hv hr).2 z
        have dd : 0≤((cR n m vdel reg src dst).2.2 (u * 32 + v)).toInt∧((cR n m vdel reg src dst).2.2 (u * 32 + v)).toInt≤((A.1 v).toInt - (vdel v).toInt) - ((A.1 u).toInt - (vdel u).toInt):=dd
        have a1:=p1 u hu
        have a2:=p1 v hv
        have a3:=hvd u hu
        have a4:=hvd v hv
        have e3 : ((cR n m vdel reg src dst).2.2 (u * 32 + v) + vdel v).toInt = ((cR n m vdel reg src dst).2.2 (u * 32 + v)).toInt + (vdel v).toInt:=add_i (by omega) (by omega)
        rw [lt_i,e3,nI_int (by omega)] at hc
        omega
      · omega⟩
  obtain ⟨p,s1,s2,s3,s4⟩:=smin_d (fe:=fun cc => (feas n m reg vdel src dst (cR n m vdel reg src dst) cc).2) 40 0 bk (by omega) (by omega) (Nat.lt_of_lt_of_le (by omega : bk - 0 < 1024) (by decide)) top (Or.inl rfl)
  have eM : cM n m vdel reg src dst = nI p:=by
    unfold cM
    rw [← hA,eb']
    exact s1
  -- lags
  obtain ⟨f1,f2⟩:=feaL_c (vdel:=vdel) (c:=nI p) hn hrg hsd hwt (n + 2) 0 (fun _ => 0) (by omega) (by omega) (fun v hv => ⟨by show (-0 : Int)≤(0 : Int32).toInt; decide,by show (0 : Int32).toInt≤0; decide⟩)
  have f2:=f2 s3
  have f3:=feaL_f (n + 2) (fun _ => 0) s3
  have eD : (feaL n m reg vdel src dst (cR n m vdel reg src dst) (nI p) (n + 2) (fun _ => 0)).1 = cD n m vdel reg src dst:=by
    unfold cD
    rw [eM]
    rfl
  rw [eD] at f1 f2 f3
  have db : ∀ v,v < n→-100000≤(cD n m vdel reg src dst v).toInt∧(cD n m vdel reg src dst v).toInt≤0:=fun v hv => by have:=f1 v hv; omega
  have xI : ∀ e,e < m→(cX n m vdel reg src dst e).toInt = (reg e).toInt + (cD n m vdel reg src dst (dst e)).toInt - (cD n m vdel reg src dst (src e)).toInt:=fun e he => by
    have sd:=hsd e he
    have b0:=db 0 hn0
    have b1:=db (src e) sd.1
    have b2:=db (dst e) sd.2
    have rg:=hrg e he
    have l1 : (lagF (cD n m vdel reg src dst) (dst e)).toInt = (cD n m vdel reg src dst (dst e)).toInt - (cD n m vdel reg src dst 0).toInt:=sub_i (by omega) (by omega)
    have l2 : (lagF (cD n m vdel reg src dst) (src e)).toInt = (cD n m vdel reg src dst (src e)).toInt - (cD n m vdel reg src dst 0).toInt:=sub_i (by omega) (by omega)
    have l3 : (reg e + lagF (cD n m vdel reg src dst) (dst e)).toInt = (reg e).toInt + (lagF (cD n m vdel reg src dst) (dst e)).toInt:=add_i (by omega) (by omega)
    have l4 : (cX n m vdel reg src dst e).toInt = (reg e + lagF (cD n m vdel reg src dst) (dst e)).toInt - (lagF (cD n m vdel reg src dst) (src e)).toInt:=sub_i (by omega) (by omega)
    omega
  have xN : ∀ e,e < m→0≤(cX n m vdel reg src dst e).toInt:=fun e he => by have:=xI e he; have:=f2 e he; omega
  -- places in the first order
  obtain ⟨g,hg⟩ : ∃ g : Nat→Nat,∀ v,v < n→g v < n∧(topo n m reg src dst (fun _ => 0)).1 (g v) = v:=by
    have ex : ∀ v,∃ i,v < n→i < n∧(topo n m reg src dst (fun _ => 0)).1 i = v:=fun v => by
      by_cases h : v < n
      · obtain ⟨i,hi⟩:=PHs k2 k3 v h
        exact ⟨i,fun _ => hi⟩
      · exact ⟨0,fun q => absurd q h⟩
    exact ⟨fun v => Classical.choose (ex v),fun v => Classical.choose_spec (ex v)⟩
  have hT1 : (topo n m (cX n m vdel reg src dst) src dst (cO n m reg src dst).1).2 = n:=topo_full hn hm hsd _ (key:=fun v => -(cD n m vdel reg src dst v).toInt * 32 + (g v : Int)) (fun v hv => by
    have b:=db v hv
    have:=(hg v hv).1
    show -1000000≤-(cD n m vdel reg src dst v).toInt * 32 + (g v : Int)∧-(cD n m vdel reg src dst v).toInt * 32 + (g v : Int)≤100000000
    omega) (fun e he hx => by
    have sd:=hsd e he
    have x0 : (cX n m vdel reg src dst e).toInt = 0:=by rw [hx]; rfl
    have xe:=xI e he
    have rg:=hrg e he
    have g1:=hg (src e) sd.1
    have g2:=hg (dst e) sd.2
    show -(cD n m vdel reg src dst (src e)).toInt * 32 + (g (src e) : Int) < -(cD n m vdel reg src dst (dst e)).toInt * 32 + (g (dst e) : Int)
    by_cases z : (reg e).toInt = 0
    · have zr : reg e = 0:=Int32.toInt_inj.mp z
      obtain ⟨j,hj,ej⟩:=k4 (g (dst e)) e g2.1 he zr g2.2.symm
      have : g (src e) = j:=k3 _ _ g1.1 (by omega) (by rw [g1.2,ej])
      omega
    · omega)
  obtain ⟨_,j2,j3,j4⟩:=topo_KO (x:=cX n m vdel reg src dst) hn hm hsd (cO n m reg src dst).1
  rw [hT1] at j2 j3 j4
  have eO : topo n m (cX n m vdel reg src dst) src dst (cO n m reg src dst).1 = cO1 n m vdel reg src dst:=rfl
  rw [eO] at j2 j3 j4
  obtain ⟨a1,a2,a3,a4⟩:=per_c (arr:=A.1) hn hvd j2 j3 (fun i e hi he hx hd => j4 i e hi he hx hd) hsd
  obtain ⟨t1,t2⟩:=peI_a (vdel:=vdel) j3 (fun i e hi he hx hd => j4 i e hi he hx hd) n 0 (A.1,0) (by omega) ⟨fun j hj => absurd hj (by omega),Or.inl rfl⟩
  have eQ : (peI m (cX n m vdel reg src dst) vdel src dst (cO1 n m vdel reg src dst).1 n 0 (A.1,0)).2 = cP1 n m vdel reg src dst:=by rw [hA]; rfl
  rw [← eQ]
  generalize peI m (cX n m vdel reg src dst) vdel src dst (cO1 n m vdel reg src dst).1 n 0 (A.1,0) = B at *
  -- all the pairs' facts
  obtain ⟨P,hPd⟩ : ∃ P : Nat→Nat→Int→Int→Prop,∀ a b w y,P a b w y ↔ (0≤w∧0≤y∧y≤((A.1 b).toInt - (vdel b).toInt) - ((A.1 a).toInt - (vdel a).toInt) + 495 * w∧((A.1 b).toInt - (vdel b).toInt) - ((A.1 a).toInt - (vdel a).toInt)≤480∧(cD n m vdel reg src dst a).toInt≤(cD n m vdel reg src dst b).toInt + w∧(w + (cD n m vdel reg src dst b).toInt - (cD n m vdel reg src dst a).toInt = 0→y≤((B.1 b).toInt - (vdel b).toInt) - ((B.1 a).toInt - (vdel a).toInt))):=⟨_,fun _ _ _ _ => Iff.rfl⟩
  have hPB : PB n P:=⟨fun a b w y h => by rw [hPd] at h; omega,fun a k b w1 y1 w2 y2 ha hk hb h1 h2 => by
    rw [hPd] at h1 h2 ⊢
    have x1:=hφ a ha
    have x2:=hφ b hb
    refine ⟨by omega,by omega,by omega,by omega,by omega,fun q => ?_⟩
    have:=h1.2.2.2.2.2 (by omega)
    have:=h2.2.2.2.2.2 (by omega)
    omega⟩
  obtain ⟨w1,w2,w3⟩:=pairs_v (P:=P) (φ:=fun v => (A.1 v).toInt - (vdel v).toInt) hn hrg hsd (fun v hv => by have:=hφ v hv; show 0≤(A.1 v).toInt - (vdel v).toInt∧(A.1 v).toInt - (vdel v).toInt≤1000; omega) hφe hPB (fun a y h => by rw [hPd] at h; omega) (fun a ha => by rw [hPd]; omega) (fun e he => by
    rw [hPd]
    have sd:=hsd e he
    have rg:=hrg e he
    have v1:=hvd (src e) sd.1
    have x1:=hφ (src e) sd.1
    have x2:=hφ (dst e) sd.2
    have fe:=f2 e he
    refine ⟨rg.1,v1.1,?_,by omega,by omega,fun q => ?_⟩
    · by_cases z : (reg e).toInt = 0
      · have:=hφe e he z; omega
      · omega
    · have zx : cX n m vdel reg src dst e = 0:=Int32.toInt_inj.mp (by rw [xI e he]; show _ = (0 : Int); omega)
      have:=a2 e he zx
      omega)
  rw [eR] at w1 w2 w3
  obtain ⟨w11,w12,w13⟩:=w1
  obtain ⟨tr1,tr2⟩:=w3
  -- from above: no register-free path is longer than p
  have up : ∀ i,i < n→∃ u,u < n∧(cR n m vdel reg src dst).1 (u * 32 + (cO1 n m vdel reg src dst).1 i) = true∧((cR n m vdel reg src dst).2.1 (u * 32 + (cO1 n m vdel reg src dst).1 i)).toInt + (cD n m vdel reg src dst ((cO1 n m vdel reg src dst).1 i)).toInt - (cD n m vdel reg src dst u).toInt = 0∧(B.1 ((cO1 n m vdel reg src dst).1 i)).toInt≤((cR n m vdel reg src dst).2.2 (u * 32 + (cO1 n m vdel reg src dst).1 i)).toInt + (vdel ((cO1 n m vdel reg src dst).1 i)).toInt:=by
    intro i
    induction i using Nat.strongRecOn with
    | _ i ih =>
      intro hi
      have hv:=j2 i hi
      rcases t1 i hi with q | ⟨e,he,hx,hd,q⟩
      · refine ⟨(cO1 n m vdel reg src dst).1 i,hv,(w13 _ hv).1,?_,?_⟩
        · have:=(w13 _ hv).2; omega
        · have:=(hPd _ _ _ _).mp (w2 _ _ hv hv (w13 _ hv).1)
          rw [q]
          omega
      · obtain ⟨j,hj,ej⟩:=j4 i e hi he hx hd
        obtain ⟨u,hu,r1,r2,r3⟩:=ih j hj (by omega)
        rw [ej] at r1 r2 r3
        have sd:=hsd e he
        generalize hvv : (cO1 n m vdel reg src dst).1 i = v at *
        obtain ⟨e1,e2⟩:=tr2 e he
        rw [hd] at e1 e2
        have r4:=w12 (src e) u v sd.1 hu hv r1 e1
        have r5:=tr1 (src e) u v sd.1 hu hv r1 e1
        have P1:=(hPd _ _ _ _).mp (w2 u v hu hv r4)
        have P2:=(hPd _ _ _ _).mp (w2 u (src e) hu sd.1 r1)
        have wb:=hwt u v hu hv r4
        have x0 : (cX n m vdel reg src dst e).toInt = 0:=by rw [hx]; rfl
        have xe:=xI e he
        rw [hd] at xe
        have A1:=a1 (src e) sd.1
        have V1:=hvd v hv
        have V2:=hvd (src e) sd.1
        have sB : (B.1 (src e) + vdel v).toInt = (B.1 (src e)).toInt + (vdel v).toInt:=add_i (by omega) (by omega)
        unfold val at r5 e2
        refine ⟨u,hu,r4,?_,?_⟩
        · omega
        · rw [q,sB]
          omega
  have upP : ∀ v,v < n→(B.1 v).toInt≤p:=by
    intro v hv
    obtain ⟨i,hi,ei⟩:=PHs j2 j3 v hv
    obtain ⟨u,hu,r1,r2,r3⟩:=up i hi
    rw [ei] at r1 r2 r3
    have P1:=(hPd _ _ _ _).mp (w2 u v hu hv r1)
    have wb:=hwt u v hu hv r1
    have V1:=hvd v hv
    have bu:=db u hu
    have bv:=db v hv
    by_cases z : (B.1 v).toInt≤p
    · exact z
    · exfalso
      have e3 : ((cR n m vdel reg src dst).2.2 (u * 32 + v) + vdel v).toInt = ((cR n m vdel reg src dst).2.2 (u * 32 + v)).toInt + (vdel v).toInt:=add_i (by omega) (by omega)
      have ct:=f3 u v hu hv r1 (by rw [lt_i,e3,nI_int (by omega)]; omega)
      have e1 : (cD n m vdel reg src dst v + (cR n m vdel reg src dst).2.1 (u * 32 + v)).toInt = (cD n m vdel reg src dst v).toInt + ((cR n m vdel reg src dst).2.1 (u * 32 + v)).toInt:=add_i (by omega) (by omega)
      have e2 : (cD n m vdel reg src dst v + (cR n m vdel reg src dst).2.1 (u * 32 + v) - 1).toInt = (cD n m vdel reg src dst v).toInt + ((cR n m vdel reg src dst).2.1 (u * 32 + v)).toInt - 1:=by
        have i1 : (1 : Int32).toInt = 1:=rfl
        have:=sub_i (a:=cD n m vdel reg src dst v + (cR n m vdel reg src dst).2.1 (u * 32 + v)) (b:=1) (by omega) (by omega)
        rw [this,e1,i1]
      rw [lt_i,e2] at ct
      omega
  have le : B.2.toInt≤p:=by
    rcases t2 with q | ⟨j,hj,q⟩
    · rw [q]; show (0 : Int)≤p; omega
    · rw [q]; exact upP _ (j2 j hj)
  -- from below: else p - 1 had a solution
  have ge : (p : Int)≤B.2.toInt:=by
    by_cases z : (p : Int)≤B.2.toInt
    · exact z
    · exfalso
      rcases s4 with s4 | s4
      · omega
      · have ff:=bf_c (c:=nI (p - 1)) hn hrg hsd hwt (D:=fun v => (cD n m vdel reg src dst v).toInt) ⟨fun v hv => by have:=db v hv; show -1000000≤(cD n m vdel reg src dst v).toInt∧(cD n m vdel reg src dst v).toInt≤0; omega,fun u v b hk => by
          show (cD n m vdel reg src dst u).toInt≤(cD n m vdel reg src dst v).toInt + b
          rcases hk with ⟨e,he,rfl,rfl,rfl⟩ | ⟨hu,hv,hr,hc,rfl⟩
          · exact f2 e he
          · have P1:=(hPd _ _ _ _).mp (w2 u v hu hv hr)
            have wb:=hwt u v hu hv hr
            have V1:=hvd v hv
            have V2:=hvd u hu
            have A1:=a1 u hu
            have A2:=a1 v hv
            have e3 : ((cR n m vdel reg src dst).2.2 (u * 32 + v) + vdel v).toInt = ((cR n m vdel reg src dst).2.2 (u * 32 + v)).toInt + (vdel v).toInt:=add_i (by omega) (by omega)
            rw [lt_i,e3,nI_int (by omega)] at hc
            by_cases y : ((cR n m vdel reg src dst).2.1 (u * 32 + v)).toInt + (cD n m vdel reg src dst v).toInt - (cD n m vdel reg src dst u).toInt = 0
            · have:=P1.2.2.2.2.2 y
              omega
            · omega⟩
        have s4 : (feas n m reg vdel src dst (cR n m vdel reg src dst) (nI (p - 1))).2 = false:=s4
        rw [s4] at ff
        cases ff
  refine ⟨p,eM,Int32.toInt_inj.mp (by rw [nI_int (by omega)]; omega),by rw [ebI]; omega,by omega,fun v hv => ?_,xN,fun a ha => ?_,hT1,s4⟩
  · have:=a1 v hv
    omega
  · have P1:=(hPd _ _ _ _).mp (w2 a a ha ha (w13 a ha).1)
    have:=(w13 a ha).2
    exact ⟨(w13 a ha).1,this,P1.2.1,by omega⟩
end Final
/-- the circuit stands in the object -/
def KC (n m : Nat) (vop vdel vk : Nat→Int32) (src dst : Nat→Nat) (reg : Nat→Int32) (s : Nat→Int32) (A : Nat→List Int32) : Prop:=s 0 = nI n∧s 1 = nI m∧n≤32∧m≤64∧LN A∧(∀ e,e < m→src e < n∧dst e < n)∧CF (A 0) vop n∧CF (A 1) vdel n∧CF (A 2) vk n∧CN (A 3) src m∧CN (A 4) dst m∧CF (A 5) reg m
/-- the register counts of the chosen circuit -/
def KX (c m : Nat) (x : Nat→Int32) (A : Nat→List Int32) : Prop:=(c = 0∧CF (A 5) x m) ∨ (c = 1∧CF (A 6) x m)
section Eng
variable {b : Nat} {pre post : AHeap} {Q : Option Value→AHeap→Prop} {s : Nat→Int32} {A : Nat→List Int32} {n m c kn : Nat} {vop vdel vk reg x : Nat→Int32} {src dst : Nat→Nat}
theorem KC.ar {A' : Nat→List Int32} (h : KC n m vop vdel vk src dst reg s A) (hl : LN A') (e : ∀ k,k < 6→A' k = A k) : KC n m vop vdel vk src dst reg s A':=by
  obtain ⟨h1,h2,h3,h4,h5,h6,h7,h8,h9,h10,h11,h12⟩:=h
  refine ⟨h1,h2,h3,h4,hl,h6,?_,?_,?_,?_,?_,?_⟩
  · rw [e 0 (by omega)]; exact h7
  · rw [e 1 (by omega)]; exact h8
  · rw [e 2 (by omega)]; exact h9
  · rw [e 3 (by omega)]; exact h10
  · rw [e 4 (by omega)]; exact h11
  · rw [e 5 (by omega)]; exact h12
theorem KC.e0 (h : KC n m vop vdel vk src dst reg s A) : s 0 = nI n:=h.1
theorem KC.e1 (h : KC n m vop vdel vk src dst reg s A) : s 1 = nI m:=h.2.1
theorem KC.n32 (h : KC n m vop vdel vk src dst reg s A) : n≤32:=h.2.2.1
theorem KC.m64 (h : KC n m vop vdel vk src dst reg s A) : m≤64:=h.2.2.2.1
theorem KC.ln (h : KC n m vop vdel vk src dst reg s A) : LN A:=h.2.2.2.2.1
theorem KC.lt (h : KC n m vop vdel vk src dst reg s A) {e : Nat} (he : e < m) : src e < n∧dst e < n:=h.2.2.2.2.2.1 e he
theorem KC.vo (h : KC n m vop vdel vk src dst reg s A) : CF (A 0) vop n:=h.2.2.2.2.2.2.1
theorem KC.vd (h : KC n m vop vdel vk src dst reg s A) : CF (A 1) vdel n:=h.2.2.2.2.2.2.2.1
theorem KC.kk (h : KC n m vop vdel vk src dst reg s A) : CF (A 2) vk n:=h.2.2.2.2.2.2.2.2.1
theorem KC.sr (h : KC n m vop vdel vk src dst reg s A) : CN (A 3) src m:=h.2.2.2.2.2.2.2.2.2.1
theorem KC.ds (h : KC n m vop vdel vk src dst reg s A) : CN (A 4) dst m:=h.2.2.2.2.2.2.2.2.2.2.1
theorem KC.rg (h : KC n m vop vdel vk src dst reg s A) : CF (A 5) reg m:=h.2.2.2.2.2.2.2.2.2.2.2
theorem KX.ar {A' : Nat→List Int32} (h : KX c m x A) (e5 : A' 5 = A 5) (e6 : A' 6 = A 6) : KX c m x A':=by
  unfold KX
  rw [e5,e6]
  exact h
theorem KX.c1 (h : KX c m x A) : c≤1:=by rcases h with ⟨h,_⟩ | ⟨h,_⟩ <;> omega
def FT (A A' : Nat→List Int32) : Prop:=∀ k,k ≠ 14→k ≠ 15→A' k = A k
theorem FT_r (A : Nat→List Int32) : FT A A:=fun _ _ _ => rfl
theorem FT_t {A A' A'' : Nat→List Int32} (h : FT A A') (h' : FT A' A'') : FT A A'':=fun k a c => (h' k a c).trans (h k a c)
theorem FT_o {A : Nat→List Int32} {j : Nat} {l : List Int32} (h : j = 14 ∨ j = 15) : FT A (ou A j l):=fun k a c => by rw [ou_a,if_neg (by omega)]
theorem KC.ft {A' : Nat→List Int32} (h : KC n m vop vdel vk src dst reg s A) (hl : LN A') (f : FT A A') : KC n m vop vdel vk src dst reg s A':=h.ar hl (fun k hk => f k (by omega) (by omega))
theorem KX.ft {A' : Nat→List Int32} (h : KX c m x A) (f : FT A A') : KX c m x A':=h.ar (f 5 (by decide) (by decide)) (f 6 (by decide) (by decide))
set_option maxRecDepth 1000000 in
set_option maxHeartbeats 20000000 in
theorem xW {e : Nat} (hx : KX c m x A) (he : e < m) (hm : m≤64) (hl : LN A) (hq : Q (some (.int (x e))) (put (b + 1) pre s A post)) : M5 0 [.val (.ref (b + 1)),.val (.int (nI e)),.val (.int (nI c))] [] (put (b + 1) pre s A post) Q:=by
  have q5:=in5 hl (i:=e) (by omega)
  have q6:=in6 hl (i:=e) (by omega)
  rcases hx with ⟨rfl,h⟩ | ⟨rfl,h⟩
  · have z : (nI 0 = 1) = False:=eq_false (by decide)
    have v:=h e he
    simp [z,q5,v,own_k5_0,nb0,nb1,ou_a,Option.toList_some,Option.toList_none,List.nil_append,List.cons_append]
    exact hq
  · have z : (nI 1 = 1) = True:=eq_true rfl
    have v:=h e he
    simp [z,q6,v,own_k5_0,nb0,nb1,ou_a,Option.toList_some,Option.toList_none,List.nil_append,List.cons_append]
    exact hq
def TI (n kn : Nat) (t : TS) (A : Nat→List Int32) : Prop:=LN A∧CF (A 15) t.1 n∧CN (A 14) t.2.1 kn∧CN (A 14) t.2.1 t.2.2∧t.2.2≤32∧kn≤32∧∀ i,i < t.2.2→t.2.1 i < n
set_option maxRecDepth 1000000 in
set_option maxHeartbeats 20000000 in
theorem tE {u h : Nat} (hu : u < 32) : ∀ (r e : Nat) (l6 : Slot) (t : TS) (A : Nat→List Int32),e + r = m→KC n m vop vdel vk src dst reg s A→KX c m x A→TI n kn t A→okS l6 →
    (∀ l6 A',okS l6→FT A A'→TI n kn (tpE x src dst u r e t) A'→M4 108 [.val (.ref (b + 1)),.val (.int (nI c)),.val (.int (nI (tpE x src dst u r e t).2.2)),.val (.int (nI (h + 1))),.val (.int (nI u)),.val (.int (nI m)),l6] [] (put (b + 1) pre s A' post) Q) →
    M4 130 [.val (.ref (b + 1)),.val (.int (nI c)),.val (.int (nI t.2.2)),.val (.int (nI h)),.val (.int (nI u)),.val (.int (nI e)),l6] [] (put (b + 1) pre s A post) Q:=by
  intro r
  induction r with
  | zero =>
    intro e l6 t A er hK hx ht o6 hq
    have e1:=hK.e1
    have m64:=hK.m64
    obtain rfl : e = m:=by omega
    have c1 : (nI e < nI e) = False:=lF (by omega) (by omega)
    rw [m4_130]
    simp [e1,c1,nI_1,m4_0,m4_1u,own_k4_0,own_k4_1,own_k4_2,own_k4_3,own_k4_4,own_k4_5,own_k4_6,own_k4_7,own_k4_8,own_k4_9,nb0,nb1,ou_a,Option.toList_some,Option.toList_none,List.nil_append,List.cons_append]
    exact hq _ _ o6 (FT_r _) ht
  | succ r ih =>
    intro e l6 t A er hK hx ht o6 hq
    have e1:=hK.e1
    have m64:=hK.m64
    have n32:=hK.n32
    have sd:=hK.lt (e:=e) (by omega)
    have c1 : (nI e < nI m) = True:=lT (by omega) (by omega)
    have q3:=in3 hK.ln (i:=e) (by omega)
    have v3:=hK.sr e (by omega)
    rw [tpE] at hq
    rw [m4_130]
    by_cases z : src e = u
    · have z1 : (nI (src e) = nI u) = True:=eq_true (congrArg nI z)
      simp [e1,c1,q3,v3,z1,m4_0,m4_1u,own_k4_0,own_k4_1,own_k4_2,own_k4_3,own_k4_4,own_k4_5,own_k4_6,own_k4_7,own_k4_8,own_k4_9,nb0,nb1,ou_a,Option.toList_some,Option.toList_none,List.nil_append,List.cons_append]
      refine xW hx (by omega) (by omega) hK.ln ?_
      by_cases y : x e = 0
      · have y1 : (x e = 0) = True:=eq_true y
        have q4:=in4 hK.ln (i:=e) (by omega)
        have v4:=hK.ds e (by omega)
        have q15:=in15 hK.ln (i:=dst e) (by omega)
        have v15:=ht.2.1 (dst e) sd.2
        have l15:=ln15 hK.ln
        have l14:=ln14 hK.ln
        have w15 : getA (setA (A 15) (nI (dst e)) (t.1 (dst e) - 1)) (nI (dst e)) = t.1 (dst e) - 1:=by rw [cf_set (by omega) (by omega) (by omega),if_pos rfl]
        have r15 : inB (nI (dst e)) (setA (A 15) (nI (dst e)) (t.1 (dst e) - 1)):=nI_in (by rw [setA_len]; omega) (by rw [setA_len]; omega)
        have s14 : ou A 15 (setA (A 15) (nI (dst e)) (t.1 (dst e) - 1)) 14 = A 14:=by rw [ou_a,if_neg (by decide)]
        have hA1 : LN (ou A 15 (setA (A 15) (nI (dst e)) (t.1 (dst e) - 1))):=LN_set hK.ln
        by_cases w : t.1 (dst e) - 1 = 0∧t.2.2 < 32
        · have w1 : (t.1 (dst e) - 1 = 0) = True:=eq_true w.1
          have w2 : (nI t.2.2 < 32) = True:=lT (c:=32) w.2 (by decide)
          have q14:=in14 hK.ln (i:=t.2.2) w.2
          have eT : tp1 x src dst u e t = (ou t.1 (dst e) (t.1 (dst e) - 1),ou t.2.1 t.2.2 (dst e),t.2.2 + 1):=by
            unfold tp1
            rw [if_pos ⟨z,y⟩,if_pos w]
          rw [eT] at hq
          simp [y1,q4,v4,q15,v15,w15,r15,w1,w2,q14,o6,nI_1,m4_0,m4_1u,own_k4_0,own_k4_1,own_k4_2,own_k4_3,own_k4_4,own_k4_5,own_k4_6,own_k4_7,own_k4_8,own_k4_9,nb0,nb1,ou_a,Option.toList_some,Option.toList_none,List.nil_append,List.cons_append]
          have hL2 : LN (ou (ou A 15 (setA (A 15) (nI (dst e)) (t.1 (dst e) - 1))) 14 (setA (A 14) (nI t.2.2) (nI (dst e)))):=LN_ou hA1 (by rw [setA_len]; exact hK.ln _)
          have f2 : FT A (ou (ou A 15 (setA (A 15) (nI (dst e)) (t.1 (dst e) - 1))) 14 (setA (A 14) (nI t.2.2) (nI (dst e)))):=FT_t (FT_o (Or.inr rfl)) (FT_o (Or.inl rfl))
          refine ih (e + 1) _ (ou t.1 (dst e) (t.1 (dst e) - 1),ou t.2.1 t.2.2 (dst e),t.2.2 + 1) _ (by omega) (hK.ft hL2 f2) (hx.ft f2) ⟨hL2,?_,?_,?_,w.2,ht.2.2.2.2.2.1,?_⟩ (okS_n _) (fun l6 A' o6 f' h' => hq l6 A' o6 (FT_t f2 f') h')
          · exact CF_set ht.2.1 (by omega) (by omega) (by omega)
          · exact CN_set ht.2.2.1 (by omega) (by omega) (by have:=ht.2.2.2.2.2.1; omega)
          · exact CN_push ht.2.2.2.1 (by omega) (by omega)
          · intro i hi
            show ou t.2.1 t.2.2 (dst e) i < n
            rw [ou_a]
            split
            · exact sd.2
            · exact ht.2.2.2.2.2.2 i (by have : i < t.2.2 + 1:=hi; omega)
        · have eT : tp1 x src dst u e t = (ou t.1 (dst e) (t.1 (dst e) - 1),t.2):=by
            unfold tp1
            rw [if_pos ⟨z,y⟩,if_neg w]
          rw [eT] at hq
          have f2 : FT A (ou A 15 (setA (A 15) (nI (dst e)) (t.1 (dst e) - 1))):=FT_o (Or.inr rfl)
          have go:=ih (e + 1) (.val (.int (nI (dst e)))) (ou t.1 (dst e) (t.1 (dst e) - 1),t.2) _ (by omega) (hK.ft hA1 f2) (hx.ft f2) ⟨hA1,CF_set ht.2.1 (by omega) (by omega) (by omega),ht.2.2⟩ (okS_n _) (fun l6 A' o6 f' h' => hq l6 A' o6 (FT_t f2 f') h')
          by_cases w1 : t.1 (dst e) - 1 = 0
          · have w1' : (t.1 (dst e) - 1 = 0) = True:=eq_true w1
            have w2 : (nI t.2.2 < 32) = False:=lF (c:=32) (Nat.le_of_not_lt (fun q => w ⟨w1,q⟩)) (by have:=ht.2.2.2.2.1; omega)
            simp [y1,q4,v4,q15,v15,w15,r15,w1',w2,o6,nI_1,m4_0,m4_1u,own_k4_0,own_k4_1,own_k4_2,own_k4_3,own_k4_4,own_k4_5,own_k4_6,own_k4_7,own_k4_8,own_k4_9,nb0,nb1,ou_a,Option.toList_some,Option.toList_none,List.nil_append,List.cons_append]
            exact go
          · have w1' : (t.1 (dst e) - 1 = 0) = False:=eq_false w1
            simp [y1,q4,v4,q15,v15,w15,r15,w1',o6,nI_1,m4_0,m4_1u,own_k4_0,own_k4_1,own_k4_2,own_k4_3,own_k4_4,own_k4_5,own_k4_6,own_k4_7,own_k4_8,own_k4_9,nb0,nb1,ou_a,Option.toList_some,Option.toList_none,List.nil_append,List.cons_append]
            exact go
      · have y1 : (x e = 0) = False:=eq_false y
        have eT : tp1 x src dst u e t = t:=by
          unfold tp1
          rw [if_neg (fun q => y q.2)]
        rw [eT] at hq
        simp [y1,nI_1,m4_0,m4_1u,own_k4_0,own_k4_1,own_k4_2,own_k4_3,own_k4_4,own_k4_5,own_k4_6,own_k4_7,own_k4_8,own_k4_9,nb0,nb1,ou_a,Option.toList_some,Option.toList_none,List.nil_append,List.cons_append]
        exact ih (e + 1) _ _ _ (by omega) hK hx ht o6 hq
    · have z1 : (nI (src e) = nI u) = False:=eq_false (nI_ne (by omega) (by omega) z)
      have eT : tp1 x src dst u e t = t:=by
        unfold tp1
        rw [if_neg (fun q => z q.1)]
      rw [eT] at hq
      simp [e1,c1,q3,v3,z1,nI_1,m4_0,m4_1u,own_k4_0,own_k4_1,own_k4_2,own_k4_3,own_k4_4,own_k4_5,own_k4_6,own_k4_7,own_k4_8,own_k4_9,nb0,nb1,ou_a,Option.toList_some,Option.toList_none,List.nil_append,List.cons_append]
      exact ih (e + 1) _ _ _ (by omega) hK hx ht o6 hq
set_option maxRecDepth 1000000 in
set_option maxHeartbeats 20000000 in
theorem tH : ∀ (f h : Nat) (l4 l5 l6 : Slot) (t : TS) (A : Nat→List Int32),h + f = 32→KC n m vop vdel vk src dst reg s A→KX c m x A→TI n kn t A→okS l4→okS l5→okS l6 →
    (∀ A',FT A A'→TI n kn (tpH x src dst m f h t) A'→Q (some (.int (if (tpH x src dst m f h t).2.2 = n then 1 else 0))) (put (b + 1) pre s A' post)) →
    M4 108 [.val (.ref (b + 1)),.val (.int (nI c)),.val (.int (nI t.2.2)),.val (.int (nI h)),l4,l5,l6] [] (put (b + 1) pre s A post) Q:=by
  have fin : ∀ (t : TS) (A : Nat→List Int32) (l3 l4 l5 l6 : Slot),KC n m vop vdel vk src dst reg s A→TI n kn t A→Q (some (.int (if t.2.2 = n then 1 else 0))) (put (b + 1) pre s A post)→M4 220 [.val (.ref (b + 1)),.val (.int (nI c)),.val (.int (nI t.2.2)),l3,l4,l5,l6] [] (put (b + 1) pre s A post) Q:=by
    intro t A l3 l4 l5 l6 hK ht hq
    have e0:=hK.e0
    have n32:=hK.n32
    have t32:=ht.2.2.2.2.1
    by_cases z : t.2.2 = n
    · have z1 : (nI t.2.2 = nI n) = True:=eq_true (congrArg nI z)
      rw [if_pos z] at hq
      simp [e0,z1,m4_0,m4_1u,own_k4_0,own_k4_1,own_k4_2,own_k4_3,own_k4_4,own_k4_5,own_k4_6,own_k4_7,own_k4_8,own_k4_9,nb0,nb1,ou_a,Option.toList_some,Option.toList_none,List.nil_append,List.cons_append]
      exact hq
    · have z1 : (nI t.2.2 = nI n) = False:=eq_false (nI_ne (by omega) (by omega) z)
      rw [if_neg z] at hq
      simp [e0,z1,m4_0,m4_1u,own_k4_0,own_k4_1,own_k4_2,own_k4_3,own_k4_4,own_k4_5,own_k4_6,own_k4_7,own_k4_8,own_k4_9,nb0,nb1,ou_a,Option.toList_some,Option.toList_none,List.nil_append,List.cons_append]
      exact hq
  intro f
  induction f with
  | zero =>
    intro h l4 l5 l6 t A e hK hx ht o4 o5 o6 hq
    have c2 : (nI h < 32) = False:=lF (c:=32) (by omega) (by omega)
    have c1 : (nI h < nI t.2.2) = False:=lF (by have:=ht.2.2.2.2.1; omega) (by omega)
    rw [m4_108]
    simp [c1,c2,m4_0,m4_1u,own_k4_0,own_k4_1,own_k4_2,own_k4_3,own_k4_4,own_k4_5,own_k4_6,own_k4_7,m4_187,m4_188,m4_191,m4_192,m4_194,m4_197,m4_198,m4_201,m4_202,m4_204,m4_205,m4_208,m4_211,m4_214,m4_217,own_k4_9,nb0,nb1,ou_a,Option.toList_some,Option.toList_none,List.nil_append,List.cons_append]
    exact fin t A _ _ _ _ hK ht (hq A (FT_r _) ht)
  | succ f ih =>
    intro h l4 l5 l6 t A e hK hx ht o4 o5 o6 hq
    have n32:=hK.n32
    have t32:=ht.2.2.2.2.1
    rw [tpH] at hq
    rw [m4_108]
    by_cases z : h < t.2.2
    · have c1 : (nI h < nI t.2.2) = True:=lT z (by omega)
      have c2 : (nI h < 32) = True:=lT (c:=32) (by omega) (by decide)
      have q14:=in14 hK.ln (i:=h) (by omega)
      have v14:=ht.2.2.2.1 h z
      have hu:=ht.2.2.2.2.2.2 h z
      rw [if_pos z] at hq
      simp [c1,c2,q14,v14,o4,o5,m4_0,m4_1u,own_k4_0,own_k4_1,own_k4_2,own_k4_3,own_k4_4,own_k4_5,own_k4_6,own_k4_7,own_k4_8,own_k4_9,nb0,nb1,ou_a,Option.toList_some,Option.toList_none,List.nil_append,List.cons_append]
      exact tE (by omega) m 0 _ t A (by omega) hK hx ht o6 (fun l6 A' o6 f' h' => ih (h + 1) _ _ _ _ A' (by omega) (hK.ft h'.1 f') (hx.ft f') h' (okS_n _) (okS_n _) o6 (fun A'' f'' h'' => hq A'' (FT_t f' f'') h''))
    · have c1 : (nI h < nI t.2.2) = False:=lF (by omega) (by omega)
      rw [if_neg z] at hq
      simp [c1,m4_0,m4_1u,own_k4_0,own_k4_1,own_k4_2,own_k4_3,own_k4_4,own_k4_5,own_k4_6,own_k4_7,m4_187,m4_188,m4_191,m4_192,m4_194,m4_197,m4_198,m4_201,m4_202,m4_204,m4_205,m4_208,m4_211,m4_214,m4_217,own_k4_9,nb0,nb1,ou_a,Option.toList_some,Option.toList_none,List.nil_append,List.cons_append]
      exact fin t A _ _ _ _ hK ht (hq A (FT_r _) ht)
set_option maxRecDepth 1000000 in
set_option maxHeartbeats 20000000 in
theorem tQ {d : Nat→Int32} : ∀ (r v : Nat) (q : TQ) (A : Nat→List Int32),v + r = n→KC n m vop vdel vk src dst reg s A→KX c m x A→TI n kn (d,q) A →
    (∀ A',FT A A'→TI n kn (tpH x src dst m 32 0 (d,tpQ d r v q)) A'→Q (some (.int (if (tpH x src dst m 32 0 (d,tpQ d r v q)).2.2 = n then 1 else 0))) (put (b + 1) pre s A' post)) →
    M4 67 [.val (.ref (b + 1)),.val (.int (nI c)),.val (.int (nI q.2)),.val (.int (nI v)),.unset,.unset,.unset] [] (put (b + 1) pre s A post) Q:=by
  intro r
  induction r with
  | zero =>
    intro v q A e hK hx ht hq
    have e0:=hK.e0
    have n32:=hK.n32
    have c1 : (nI v < nI n) = False:=lF (by omega) (by omega)
    rw [m4_67]
    simp [e0,c1,m4_0,m4_1u,own_k4_0,own_k4_1,own_k4_2,own_k4_3,own_k4_4,own_k4_5,own_k4_6,own_k4_7,own_k4_8,own_k4_9,nb0,nb1,ou_a,Option.toList_some,Option.toList_none,List.nil_append,List.cons_append]
    exact tH 32 0 _ _ _ (d,q) A (by omega) hK hx ht okS_u okS_u okS_u hq
  | succ r ih =>
    intro v q A e hK hx ht hq
    have e0:=hK.e0
    have n32:=hK.n32
    have c1 : (nI v < nI n) = True:=lT (by omega) (by omega)
    have q15:=in15 hK.ln (i:=v) (by omega)
    have v15 : getA (A 15) (nI v) = d v:=ht.2.1 v (by omega)
    have l14:=ln14 hK.ln
    have t32 : q.2≤32:=ht.2.2.2.2.1
    rw [tpQ] at hq
    rw [m4_67]
    by_cases z : d v = 0∧q.2 < 32
    · have z1 : (d v = 0) = True:=eq_true z.1
      have z2 : (nI q.2 < 32) = True:=lT (c:=32) z.2 (by decide)
      have q14:=in14 hK.ln (i:=q.2) z.2
      rw [if_pos z] at hq
      simp [e0,c1,q15,v15,z1,z2,q14,nI_1,m4_0,m4_1u,own_k4_0,own_k4_1,own_k4_2,own_k4_3,own_k4_4,own_k4_5,own_k4_6,own_k4_7,own_k4_8,own_k4_9,nb0,nb1,ou_a,Option.toList_some,Option.toList_none,List.nil_append,List.cons_append]
      have hL : LN (ou A 14 (setA (A 14) (nI q.2) (nI v))):=LN_set hK.ln
      have f1 : FT A (ou A 14 (setA (A 14) (nI q.2) (nI v))):=FT_o (Or.inl rfl)
      refine ih (v + 1) (ou q.1 q.2 v,q.2 + 1) _ (by omega) (hK.ft hL f1) (hx.ft f1) ⟨hL,ht.2.1,?_,?_,z.2,ht.2.2.2.2.2.1,?_⟩ (fun A' f' h' => hq A' (FT_t f1 f') h')
      · exact CN_set ht.2.2.1 (by omega) (by omega) (by have:=ht.2.2.2.2.2.1; omega)
      · exact CN_push ht.2.2.2.1 (by omega) (by omega)
      · intro i hi
        show ou q.1 q.2 v i < n
        rw [ou_a]
        split
        · omega
        · exact ht.2.2.2.2.2.2 i (by have : i < q.2 + 1:=hi; show i < q.2; omega)
    · rw [if_neg z] at hq
      by_cases z0 : d v = 0
      · have z1 : (d v = 0) = True:=eq_true z0
        have z2 : (nI q.2 < 32) = False:=lF (c:=32) (Nat.le_of_not_lt (fun y => z ⟨z0,y⟩)) (by omega)
        simp [e0,c1,q15,v15,z1,z2,nI_1,m4_0,m4_1u,own_k4_0,own_k4_1,own_k4_2,own_k4_3,own_k4_4,own_k4_5,own_k4_6,own_k4_7,own_k4_8,own_k4_9,nb0,nb1,ou_a,Option.toList_some,Option.toList_none,List.nil_append,List.cons_append]
        exact ih (v + 1) _ _ (by omega) hK hx ht hq
      · have z1 : (d v = 0) = False:=eq_false z0
        simp [e0,c1,q15,v15,z1,nI_1,m4_0,m4_1u,own_k4_0,own_k4_1,own_k4_2,own_k4_3,own_k4_4,own_k4_5,own_k4_6,own_k4_7,own_k4_8,own_k4_9,nb0,nb1,ou_a,Option.toList_some,Option.toList_none,List.nil_append,List.cons_append]
        exact ih (v + 1) _ _ (by omega) hK hx ht hq
set_option maxRecDepth 1000000 in
set_option maxHeartbeats 20000000 in
theorem tC {o0 : Nat→Nat} : ∀ (r e : Nat) (d : Nat→Int32) (A : Nat→List Int32),e + r = m→KC n m vop vdel vk src dst reg s A→KX c m x A→CF (A 15) d n→CN (A 14) o0 kn→kn≤32 →
    (∀ A',FT A A'→TI n kn (tpH x src dst m 32 0 (tpI x dst r e d,tpQ (tpI x dst r e d) n 0 (o0,0))) A'→Q (some (.int (if (tpH x src dst m 32 0 (tpI x dst r e d,tpQ (tpI x dst r e d) n 0 (o0,0))).2.2 = n then 1 else 0))) (put (b + 1) pre s A' post)) →
    M4 25 [.val (.ref (b + 1)),.val (.int (nI c)),.val (.int (nI e)),.unset,.unset,.unset,.unset] [] (put (b + 1) pre s A post) Q:=by
  intro r
  induction r with
  | zero =>
    intro e d A er hK hx h15 h14 hkn hq
    have e1:=hK.e1
    have m64:=hK.m64
    have c1 : (nI e < nI m) = False:=lF (by omega) (by omega)
    rw [m4_25]
    simp [e1,c1,m4_0,m4_1u,own_k4_0,own_k4_1,own_k4_2,own_k4_3,own_k4_4,own_k4_5,own_k4_6,own_k4_7,own_k4_8,own_k4_9,nb0,nb1,ou_a,Option.toList_some,Option.toList_none,List.nil_append,List.cons_append]
    exact tQ n 0 (o0,0) A (by omega) hK hx ⟨hK.ln,h15,h14,fun i hi => absurd hi (Nat.not_lt_zero _),Nat.zero_le _,hkn,fun i hi => absurd hi (Nat.not_lt_zero _)⟩ hq
  | succ r ih =>
    intro e d A er hK hx h15 h14 hkn hq
    have e1:=hK.e1
    have m64:=hK.m64
    have n32:=hK.n32
    have sd:=hK.lt (e:=e) (by omega)
    have c1 : (nI e < nI m) = True:=lT (by omega) (by omega)
    rw [tpI] at hq
    rw [m4_25]
    simp [e1,c1,m4_0,m4_1u,own_k4_0,own_k4_1,own_k4_2,own_k4_3,own_k4_4,own_k4_5,own_k4_6,own_k4_7,own_k4_8,own_k4_9,nb0,nb1,ou_a,Option.toList_some,Option.toList_none,List.nil_append,List.cons_append]
    refine xW hx (by omega) (by omega) hK.ln ?_
    by_cases y : x e = 0
    · have y1 : (x e = 0) = True:=eq_true y
      have q4:=in4 hK.ln (i:=e) (by omega)
      have v4:=hK.ds e (by omega)
      have q15:=in15 hK.ln (i:=dst e) (by omega)
      have v15:=h15 (dst e) sd.2
      have l15:=ln15 hK.ln
      rw [if_pos y] at hq
      simp [y1,q4,v4,q15,v15,nI_1,m4_0,m4_1u,own_k4_0,own_k4_1,own_k4_2,own_k4_3,own_k4_4,own_k4_5,own_k4_6,own_k4_7,own_k4_8,own_k4_9,nb0,nb1,ou_a,Option.toList_some,Option.toList_none,List.nil_append,List.cons_append]
      have hL : LN (ou A 15 (setA (A 15) (nI (dst e)) (d (dst e) + 1))):=LN_set hK.ln
      have f1 : FT A (ou A 15 (setA (A 15) (nI (dst e)) (d (dst e) + 1))):=FT_o (Or.inr rfl)
      exact ih (e + 1) _ _ (by omega) (hK.ft hL f1) (hx.ft f1) (CF_set h15 (by omega) (by omega) (by omega)) h14 hkn (fun A' f' h' => hq A' (FT_t f1 f') h')
    · have y1 : (x e = 0) = False:=eq_false y
      rw [if_neg y] at hq
      simp [y1,nI_1,m4_0,m4_1u,own_k4_0,own_k4_1,own_k4_2,own_k4_3,own_k4_4,own_k4_5,own_k4_6,own_k4_7,own_k4_8,own_k4_9,nb0,nb1,ou_a,Option.toList_some,Option.toList_none,List.nil_append,List.cons_append]
      exact ih (e + 1) _ _ (by omega) hK hx h15 h14 hkn hq
set_option maxRecDepth 1000000 in
set_option maxHeartbeats 20000000 in
theorem tZ {o0 : Nat→Nat} : ∀ (r i : Nat) (A : Nat→List Int32),i + r = n→KC n m vop vdel vk src dst reg s A→KX c m x A→CF (A 15) (fun _ => 0) i→CN (A 14) o0 kn→kn≤32 →
    (∀ A',LN A'→FT A A'→CN (A' 14) (topo n m x src dst o0).1 kn→CN (A' 14) (topo n m x src dst o0).1 (topo n m x src dst o0).2→Q (some (.int (if (topo n m x src dst o0).2 = n then 1 else 0))) (put (b + 1) pre s A' post)) →
    M4 2 [.val (.ref (b + 1)),.val (.int (nI c)),.val (.int (nI i)),.unset,.unset,.unset,.unset] [] (put (b + 1) pre s A post) Q:=by
  intro r
  induction r with
  | zero =>
    intro i A e hK hx h15 h14 hkn hq
    have e0:=hK.e0
    have n32:=hK.n32
    obtain rfl : i = n:=by omega
    have c1 : (nI i < nI i) = False:=lF (by omega) (by omega)
    rw [m4_2]
    simp [e0,c1,m4_0,m4_1u,own_k4_0,own_k4_1,own_k4_2,own_k4_3,own_k4_4,own_k4_5,own_k4_6,own_k4_7,own_k4_8,own_k4_9,nb0,nb1,ou_a,Option.toList_some,Option.toList_none,List.nil_append,List.cons_append]
    exact tC m 0 _ A (by omega) hK hx h15 h14 hkn (fun A' f' h' => hq A' h'.1 f' h'.2.2.1 h'.2.2.2.1)
  | succ r ih =>
    intro i A e hK hx h15 h14 hkn hq
    have e0:=hK.e0
    have n32:=hK.n32
    have c1 : (nI i < nI n) = True:=lT (by omega) (by omega)
    have q15:=in15 hK.ln (i:=i) (by omega)
    have l15:=ln15 hK.ln
    rw [m4_2]
    simp [e0,c1,q15,nI_1,m4_0,m4_1u,own_k4_0,own_k4_1,own_k4_2,own_k4_3,own_k4_4,own_k4_5,own_k4_6,own_k4_7,own_k4_8,own_k4_9,nb0,nb1,ou_a,Option.toList_some,Option.toList_none,List.nil_append,List.cons_append]
    have hL : LN (ou A 15 (setA (A 15) (nI i) 0)):=LN_set hK.ln
    have f1 : FT A (ou A 15 (setA (A 15) (nI i) 0)):=FT_o (Or.inr rfl)
    refine ih (i + 1) _ (by omega) (hK.ft hL f1) (hx.ft f1) (fun j hj => ?_) h14 hkn (fun A' l' f' h' h'' => hq A' l' (FT_t f1 f') h' h'')
    show getA (setA (A 15) _ _) _ = _
    rw [cf_set (by omega) (by omega) (by omega)]
    split
    · rfl
    · exact h15 j (by omega)
theorem tW {o0 : Nat→Nat} (hK : KC n m vop vdel vk src dst reg s A) (hx : KX c m x A) (h14 : CN (A 14) o0 kn) (hkn : kn≤32) (hq : ∀ A',LN A'→FT A A'→CN (A' 14) (topo n m x src dst o0).1 kn→CN (A' 14) (topo n m x src dst o0).1 (topo n m x src dst o0).2→Q (some (.int (if (topo n m x src dst o0).2 = n then 1 else 0))) (put (b + 1) pre s A' post)) :
    M4 0 [.val (.ref (b + 1)),.val (.int (nI c)),.unset,.unset,.unset,.unset,.unset] [] (put (b + 1) pre s A post) Q:=by
  simp [m4_0,m4_1u,own_k4_0,own_k4_1,own_k4_2,own_k4_3,own_k4_4,own_k4_5,own_k4_6,own_k4_7,own_k4_8,own_k4_9,nb0,nb1,ou_a,Option.toList_some,Option.toList_none,List.nil_append,List.cons_append]
  exact tZ n 0 A (by omega) hK hx (fun i hi => absurd hi (by omega)) h14 hkn hq
set_option maxRecDepth 1000000 in
set_option maxHeartbeats 20000000 in
theorem peEW {arr : Nat→Int32} {v : Nat} {l2 l3 : Slot} (hK : KC n m vop vdel vk src dst reg s A) (hx : KX c m x A) (hv : v < n) (hR : ∀ e,e < m→dst e = v→x e = 0→getA (A 16) (nI (src e)) = arr (src e)) : ∀ (r e : Nat) (a : Int32) (l7 : Slot),e + r = m→okS l7 →
    (∀ l7,okS l7→M6 102 [.val (.ref (b + 1)),.val (.int (nI c)),l2,l3,.val (.int (nI v)),.val (.int (peE x vdel arr src dst v r e a)),.val (.int (nI m)),l7] [] (put (b + 1) pre s A post) Q) →
    M6 32 [.val (.ref (b + 1)),.val (.int (nI c)),l2,l3,.val (.int (nI v)),.val (.int (a)),.val (.int (nI e)),l7] [] (put (b + 1) pre s A post) Q:=by
  have e1:=hK.e1
  have m64:=hK.m64
  have n32:=hK.n32
  intro r
  induction r with
  | zero =>
    intro e a l7 er o7 hq
    obtain rfl : e = m:=by omega
    have c1 : (nI e < nI e) = False:=lF (by omega) (by omega)
    rw [m6_32]
    simp [e1,c1,own_k6_0,own_k6_1,own_k6_2,own_k6_3,own_k6_4,m6_92,m6_94i,m6_96,m6_99,m6_103,m6_106,m6_108,m6_110,m6_111,m6_113,m6_114,m6_117,m6_119i,m6_120,m6_123,m6_126,m6_127,nb0,nb1,ou_a,Option.toList_some,Option.toList_none,List.nil_append,List.cons_append]
    exact hq _ o7
  | succ r ih =>
    intro e a l7 er o7 hq
    have sd:=hK.lt (e:=e) (by omega)
    have c1 : (nI e < nI m) = True:=lT (by omega) (by omega)
    have q4:=in4 hK.ln (i:=e) (by omega)
    have v4:=hK.ds e (by omega)
    rw [peE] at hq
    rw [m6_32]
    by_cases z : dst e = v
    · have z1 : (nI (dst e) = nI v) = True:=eq_true (congrArg nI z)
      simp [e1,c1,q4,v4,z1,own_k6_0,own_k6_1,own_k6_2,own_k6_3,own_k6_4,own_k6_5,m6_126,m6_127,nb0,nb1,ou_a,Option.toList_some,Option.toList_none,List.nil_append,List.cons_append]
      refine xW hx (by omega) (by omega) hK.ln ?_
      by_cases y : x e = 0
      · have y1 : (x e = 0) = True:=eq_true y
        have q3:=in3 hK.ln (i:=e) (by omega)
        have v3:=hK.sr e (by omega)
        have q16:=in16 hK.ln (i:=src e) (by omega)
        have v16:=hR e (by omega) z y
        have q1:=in1 hK.ln (i:=v) (by omega)
        have v1:=hK.vd v hv
        rw [if_pos ⟨z,y⟩] at hq
        by_cases w : a < arr (src e) + vdel v
        · rw [if_pos w] at hq
          have w1:=eq_true w
          simp [y1,q3,v3,q16,v16,q1,v1,w1,o7,nI_1,own_k6_0,own_k6_1,own_k6_2,own_k6_3,own_k6_4,own_k6_5,m6_126,m6_127,nb0,nb1,ou_a,Option.toList_some,Option.toList_none,List.nil_append,List.cons_append]
          exact ih (e + 1) _ _ (by omega) (okS_i _) hq
        · rw [if_neg w] at hq
          have w1:=eq_false w
          simp [y1,q3,v3,q16,v16,q1,v1,w1,o7,nI_1,own_k6_0,own_k6_1,own_k6_2,own_k6_3,own_k6_4,own_k6_5,m6_126,m6_127,nb0,nb1,ou_a,Option.toList_some,Option.toList_none,List.nil_append,List.cons_append]
          exact ih (e + 1) _ _ (by omega) (okS_i _) hq
      · have y1 : (x e = 0) = False:=eq_false y
        rw [if_neg (fun q => y q.2)] at hq
        simp [y1,nI_1,own_k6_0,own_k6_1,own_k6_2,own_k6_3,own_k6_4,own_k6_5,m6_126,m6_127,nb0,nb1,ou_a,Option.toList_some,Option.toList_none,List.nil_append,List.cons_append]
        exact ih (e + 1) _ _ (by omega) o7 hq
    · have z1 : (nI (dst e) = nI v) = False:=eq_false (nI_ne (by omega) (by omega) z)
      rw [if_neg (fun q => z q.1)] at hq
      simp [e1,c1,q4,v4,z1,nI_1,own_k6_0,own_k6_1,own_k6_2,own_k6_3,own_k6_4,own_k6_5,m6_126,m6_127,nb0,nb1,ou_a,Option.toList_some,Option.toList_none,List.nil_append,List.cons_append]
      exact ih (e + 1) _ _ (by omega) o7 hq
set_option maxRecDepth 1000000 in
set_option maxHeartbeats 20000000 in
theorem peIW {o : Nat→Nat} {kp : Nat→Prop} (ho : ∀ i,i < n→o i < n) (hT : ∀ i e,i < n→e < m→dst e = o i→x e = 0→kp (src e) ∨ ∃ j,j < i∧o j = src e) : ∀ (r i : Nat) (l4 l5 l6 l7 : Slot) (t : (Nat→Int32) × Int32) (A : Nat→List Int32),i + r = n→KC n m vop vdel vk src dst reg s A→KX c m x A→CN (A 14) o n→(∀ v,v < n→(kp v ∨ ∃ j,j < i∧o j = v)→getA (A 16) (nI v) = t.1 v)→okS l4→okS l5→okS l6→okS l7 →
    (∀ A',LN A'→(∀ k,k ≠ 16→A' k = A k)→(∀ v,v < n→(kp v ∨ ∃ j,j < n∧o j = v)→getA (A' 16) (nI v) = (peI m x vdel src dst o r i t).1 v)→Q (some (.int (peI m x vdel src dst o r i t).2)) (put (b + 1) pre s A' post)) →
    M6 4 [.val (.ref (b + 1)),.val (.int (nI c)),.val (.int (t.2)),.val (.int (nI i)),l4,l5,l6,l7] [] (put (b + 1) pre s A post) Q:=by
  intro r
  induction r with
  | zero =>
    intro i l4 l5 l6 l7 t A e hK hx h14 h16 o4 o5 o6 o7 hq
    have e0:=hK.e0
    have n32:=hK.n32
    obtain rfl : i = n:=by omega
    have c1 : (nI i < nI i) = False:=lF (by omega) (by omega)
    rw [m6_4]
    simp [e0,c1,own_k6_0,own_k6_1,own_k6_2,own_k6_3,own_k6_4,own_k6_5,m6_126,m6_127,nb0,nb1,ou_a,Option.toList_some,Option.toList_none,List.nil_append,List.cons_append]
    exact hq A hK.ln (fun _ _ => rfl) h16
  | succ r ih =>
    intro i l4 l5 l6 l7 t A e hK hx h14 h16 o4 o5 o6 o7 hq
    have e0:=hK.e0
    have n32:=hK.n32
    have c1 : (nI i < nI n) = True:=lT (by omega) (by omega)
    have q14:=in14 hK.ln (i:=i) (by omega)
    have v14:=h14 i (by omega)
    have hv:=ho i (by omega)
    have q1:=in1 hK.ln (i:=o i) (by omega)
    have v1:=hK.vd (o i) hv
    have q16:=in16 hK.ln (i:=o i) (by omega)
    have l16:=ln16 hK.ln
    rw [peI] at hq
    rw [m6_4]
    simp [e0,c1,q14,v14,q1,v1,o4,o5,o6,own_k6_0,own_k6_1,own_k6_2,own_k6_3,own_k6_4,own_k6_5,m6_126,m6_127,nb0,nb1,ou_a,Option.toList_some,Option.toList_none,List.nil_append,List.cons_append]
    refine peEW hK hx hv (fun e he hd hz => h16 _ (hK.lt he).1 (hT i e (by omega) he hd hz)) m 0 (vdel (o i)) _ (by omega) o7 (fun l7 o7 => ?_)
    have hL : LN (ou A 16 (setA (A 16) (nI (o i)) (peE x vdel t.1 src dst (o i) m 0 (vdel (o i))))):=LN_set hK.ln
    have f1 : ∀ k,k ≠ 16→ou A 16 (setA (A 16) (nI (o i)) (peE x vdel t.1 src dst (o i) m 0 (vdel (o i)))) k = A k:=fun k hk => by rw [ou_a,if_neg hk]
    have h16' : ∀ v,v < n→(kp v ∨ ∃ j,j < i + 1∧o j = v)→getA (ou A 16 (setA (A 16) (nI (o i)) (peE x vdel t.1 src dst (o i) m 0 (vdel (o i)))) 16) (nI v) = ou t.1 (o i) (peE x vdel t.1 src dst (o i) m 0 (vdel (o i))) v:=by
      intro v hvn hk
      show getA (setA (A 16) _ _) _ = _
      rw [cf_set (by omega) (by omega) (by omega),ou_a]
      by_cases z : v = o i
      · rw [if_pos z,if_pos z]
      · rw [if_neg z,if_neg z]
        refine h16 v hvn (hk.imp id (fun ⟨j,hj,e⟩ => ⟨j,?_,e⟩))
        have : j ≠ i:=fun q => z (by rw [← e,q])
        omega
    generalize peE x vdel t.1 src dst (o i) m 0 (vdel (o i)) = a at *
    have hK':=hK.ar hL (fun k hk => f1 k (by omega))
    have hx':=hx.ar (f1 5 (by decide)) (f1 6 (by decide))
    by_cases w : t.2 < a
    · have w1:=eq_true w
      rw [if_pos w] at hq
      simp [q16,w1,nI_1,own_k6_0,own_k6_1,own_k6_2,own_k6_3,own_k6_4,own_k6_5,m6_126,m6_127,nb0,nb1,ou_a,Option.toList_some,Option.toList_none,List.nil_append,List.cons_append]
      exact ih (i + 1) _ _ _ _ (ou t.1 (o i) a,a) _ (by omega) hK' hx' h14 h16' (okS_n _) (okS_i _) (okS_n _) o7 (fun A' l' f' h' => hq A' l' (fun k hk => (f' k hk).trans (f1 k hk)) h')
    · have w1:=eq_false w
      rw [if_neg w] at hq
      simp [q16,w1,nI_1,own_k6_0,own_k6_1,own_k6_2,own_k6_3,own_k6_4,own_k6_5,m6_126,m6_127,nb0,nb1,ou_a,Option.toList_some,Option.toList_none,List.nil_append,List.cons_append]
      exact ih (i + 1) _ _ _ _ (ou t.1 (o i) a,t.2) _ (by omega) hK' hx' h14 h16' (okS_n _) (okS_i _) (okS_n _) o7 (fun A' l' f' h' => hq A' l' (fun k hk => (f' k hk).trans (f1 k hk)) h')
theorem peW {o : Nat→Nat} {kp : Nat→Prop} {arr : Nat→Int32} (ho : ∀ i,i < n→o i < n) (hT : ∀ i e,i < n→e < m→dst e = o i→x e = 0→kp (src e) ∨ ∃ j,j < i∧o j = src e) (hK : KC n m vop vdel vk src dst reg s A) (hx : KX c m x A) (h14 : CN (A 14) o n) (h16 : ∀ v,v < n→kp v→getA (A 16) (nI v) = arr v)
    (hq : ∀ A',LN A'→(∀ k,k ≠ 16→A' k = A k)→(∀ v,v < n→(kp v ∨ ∃ j,j < n∧o j = v)→getA (A' 16) (nI v) = (peI m x vdel src dst o n 0 (arr,0)).1 v)→Q (some (.int (peI m x vdel src dst o n 0 (arr,0)).2)) (put (b + 1) pre s A' post)) :
    M6 0 [.val (.ref (b + 1)),.val (.int (nI c)),.unset,.unset,.unset,.unset,.unset,.unset] [] (put (b + 1) pre s A post) Q:=by
  simp [own_k6_0,own_k6_1,own_k6_2,own_k6_3,own_k6_4,own_k6_5,m6_126,m6_127,nb0,nb1,ou_a,Option.toList_some,Option.toList_none,List.nil_append,List.cons_append]
  exact peIW ho hT n 0 _ _ _ _ (arr,0) A (by omega) hK hx h14 (fun v hv hk => h16 v hv (hk.elim id (fun ⟨j,hj,_⟩ => absurd hj (by omega)))) okS_u okS_u okS_u okS_u hq
def b2 (b : Bool) : Int32:=if b = true then 1 else 0
def PRc (n : Nat) (r : PR) (A : Nat→List Int32) : Prop:=∀ i j,i < n→j < n→getA (A 11) (nI (i * 32 + j)) = b2 (r.1 (i * 32 + j))∧(r.1 (i * 32 + j) = true→getA (A 9) (nI (i * 32 + j)) = r.2.1 (i * 32 + j)∧getA (A 10) (nI (i * 32 + j)) = r.2.2 (i * 32 + j))
def FO (A A' : Nat→List Int32) : Prop:=∀ k,k ≠ 9→k ≠ 10→k ≠ 11→A' k = A k
theorem FO_r (A : Nat→List Int32) : FO A A:=fun _ _ _ _ => rfl
theorem FO_t {A A' A'' : Nat→List Int32} (h : FO A A') (h' : FO A' A'') : FO A A'':=fun k a b c => (h' k a b c).trans (h k a b c)
theorem KC.fo {A' : Nat→List Int32} (h : KC n m vop vdel vk src dst reg s A) (hl : LN A') (f : FO A A') : KC n m vop vdel vk src dst reg s A':=h.ar hl (fun k hk => f k (by omega) (by omega) (by omega))
theorem PRc_set {r : PR} {k : Nat} {w y : Int32} (hk : k < 1024) (hl : LN A) (hn : n≤32) (h : PRc n r A) : PRc n (ou r.1 k true,ou r.2.1 k w,ou r.2.2 k y) (ou (ou (ou A 11 (setA (A 11) (nI k) 1)) 9 (setA (A 9) (nI k) w)) 10 (setA (A 10) (nI k) y)):=by
  intro i j hi hj
  have l9:=ln9 hl
  have l10:=ln10 hl
  have l11:=ln11 hl
  show getA (setA (A 11) _ _) _ = b2 (ou r.1 k true (i * 32 + j))∧(ou r.1 k true (i * 32 + j) = true→getA (setA (A 9) _ _) _ = ou r.2.1 k w (i * 32 + j)∧getA (setA (A 10) _ _) _ = ou r.2.2 k y (i * 32 + j))
  rw [cf_set (by omega) (by omega) (by omega),cf_set (by omega) (by omega) (by omega),cf_set (by omega) (by omega) (by omega),ou_a,ou_a,ou_a]
  by_cases z : i * 32 + j = k
  · rw [if_pos z,if_pos z,if_pos z,if_pos z,if_pos z,if_pos z]
    exact ⟨rfl,fun _ => ⟨rfl,rfl⟩⟩
  · rw [if_neg z,if_neg z,if_neg z,if_neg z,if_neg z,if_neg z]
    exact h i j hi hj
theorem LN3 {A : Nat→List Int32} {k : Nat} {w y z : Int32} (hl : LN A) : LN (ou (ou (ou A 11 (setA (A 11) (nI k) z)) 9 (setA (A 9) (nI k) w)) 10 (setA (A 10) (nI k) y)):=by
  (repeat refine LN_ou ?_ (by simp only [setA_len]; exact hl _)); exact hl
theorem FO3 {A : Nat→List Int32} {l1 l2 l3 : List Int32} : FO A (ou (ou (ou A 11 l1) 9 l2) 10 l3):=fun k a b c => by rw [ou_a,if_neg b,ou_a,if_neg a,ou_a,if_neg c]
set_option maxRecDepth 1000000 in
set_option maxHeartbeats 20000000 in
theorem ofW {r : PR} {i j : Nat} {w y : Int32} (hi : i < n) (hj : j < n) (hn : n≤32) (hl : LN A) (h : PRc n r A) (hq : ∀ A',LN A'→FO A A'→PRc n (off (i * 32 + j) w y r) A'→Q none (put (b + 1) pre s A' post)) :
    M8 0 [.val (.ref (b + 1)),.val (.int (nI (i * 32 + j))),.val (.int (w)),.val (.int (y))] [] (put (b + 1) pre s A post) Q:=by
  have q9:=in9 hl (i:=i * 32 + j) (by omega)
  have q10:=in10 hl (i:=i * 32 + j) (by omega)
  have q11:=in11 hl (i:=i * 32 + j) (by omega)
  obtain ⟨v11,hv⟩:=h i j hi hj
  have fin:=PRc_set (w:=w) (y:=y) (k:=i * 32 + j) (by omega) hl hn h
  unfold off at hq
  by_cases a : r.1 (i * 32 + j) = true
  · obtain ⟨v9,v10⟩:=hv a
    have v11' : getA (A 11) (nI (i * 32 + j)) = 1:=by rw [v11,a]; rfl
    by_cases a1 : w < r.2.1 (i * 32 + j)
    · rw [if_pos (Or.inr (Or.inl a1))] at hq
      have z1:=eq_true a1
      simp [q9,q10,q11,v9,v10,v11',z1,own_k8_0,own_k8_1,own_k8_2,nb0,nb1,ou_a,Option.toList_some,Option.toList_none,List.nil_append,List.cons_append]
      exact hq _ (LN3 hl) FO3 fin
    · have z1:=eq_false a1
      by_cases a2 : w = r.2.1 (i * 32 + j)
      · have z2:=eq_true a2
        by_cases a3 : r.2.2 (i * 32 + j) < y
        · rw [if_pos (Or.inr (Or.inr ⟨a2,a3⟩))] at hq
          have z3:=eq_true a3
          simp [q9,q10,q11,v9,v10,v11',z1,z2,z3,own_k8_0,own_k8_1,own_k8_2,nb0,nb1,ou_a,Option.toList_some,Option.toList_none,List.nil_append,List.cons_append]
          exact hq _ (LN3 hl) FO3 fin
        · rw [if_neg (fun q => q.elim (fun q => by rw [a] at q; cases q) (fun q => q.elim a1 (fun q => a3 q.2)))] at hq
          have z3:=eq_false a3
          simp [q9,q10,q11,v9,v10,v11',z1,z2,z3,own_k8_0,own_k8_1,own_k8_2,nb0,nb1,ou_a,Option.toList_some,Option.toList_none,List.nil_append,List.cons_append]
          exact hq _ hl (FO_r _) h
      · rw [if_neg (fun q => q.elim (fun q => by rw [a] at q; cases q) (fun q => q.elim a1 (fun q => a2 q.1)))] at hq
        have z2:=eq_false a2
        simp [q9,q10,q11,v9,v10,v11',z1,z2,own_k8_0,own_k8_1,own_k8_2,nb0,nb1,ou_a,Option.toList_some,Option.toList_none,List.nil_append,List.cons_append]
        exact hq _ hl (FO_r _) h
  · have a' : r.1 (i * 32 + j) = false:=by cases q : r.1 (i * 32 + j) <;> simp_all
    have v11' : getA (A 11) (nI (i * 32 + j)) = 0:=by rw [v11,a']; rfl
    rw [if_pos (Or.inl a')] at hq
    simp [q9,q10,q11,v11',own_k8_0,own_k8_1,own_k8_2,nb0,nb1,ou_a,Option.toList_some,Option.toList_none,List.nil_append,List.cons_append]
    exact hq _ (LN3 hl) FO3 fin
set_option maxRecDepth 1000000 in
set_option maxHeartbeats 20000000 in
theorem rvJW {k i : Nat} (hk : k < n) (hi : i < n) : ∀ (c j : Nat) (l5 : Slot) (r : PR) (A : Nat→List Int32),j + c = n→KC n m vop vdel vk src dst reg s A→PRc n r A→r.1 (i * 32 + k) = true→okS l5 →
    (∀ l4 l5 A',okS l4→okS l5→LN A'→FO A A'→PRc n (rvJ k i c j r) A'→M9 105 [.val (.ref (b + 1)),.val (.int (nI k)),.val (.int (nI i)),.val (.int (nI (i * 32 + k))),l4,l5] [] (put (b + 1) pre s A' post) Q) →
    M9 32 [.val (.ref (b + 1)),.val (.int (nI k)),.val (.int (nI i)),.val (.int (nI (i * 32 + k))),.val (.int (nI j)),l5] [] (put (b + 1) pre s A post) Q:=by
  intro c
  induction c with
  | zero =>
    intro j l5 r A e hK hP hr o5 hq
    have e0:=hK.e0
    have n32:=hK.n32
    have c1 : (nI j < nI n) = False:=lF (by omega) (by omega)
    rw [m9_32]
    simp [e0,c1,m9_0,m9_1u,own_k9_0,own_k9_1,own_k9_2,own_k9_3,m9_83,m9_86,m9_87,m9_88,m9_89,m9_92,m9_94,m9_95,m9_96,m9_99,m9_102,m9_108,m9_111,nb0,nb1,ou_a,Option.toList_some,Option.toList_none,List.nil_append,List.cons_append]
    exact hq _ _ A (okS_n _) o5 hK.ln (FO_r _) hP
  | succ c ih =>
    intro j l5 r A e hK hP hr o5 hq
    have e0:=hK.e0
    have n32:=hK.n32
    have c1 : (nI j < nI n) = True:=lT (by omega) (by omega)
    have q11:=in11 hK.ln (i:=k * 32 + j) (by omega)
    obtain ⟨v11,hv⟩:=hP k j hk (by omega)
    rw [rvJ] at hq
    rw [m9_32]
    by_cases a : r.1 (k * 32 + j) = true
    · have v11' : getA (A 11) (nI (k * 32 + j)) = 1:=by rw [v11,a]; rfl
      obtain ⟨v9,v10⟩:=hv a
      obtain ⟨w9,w10⟩:=(hP i k hi hk).2 hr
      have q9:=in9 hK.ln (i:=k * 32 + j) (by omega)
      have q10:=in10 hK.ln (i:=k * 32 + j) (by omega)
      have r9:=in9 hK.ln (i:=i * 32 + k) (by omega)
      have r10:=in10 hK.ln (i:=i * 32 + k) (by omega)
      rw [if_pos a] at hq
      simp [e0,c1,q11,v11',v9,v10,w9,w10,q9,q10,r9,r10,o5,nI_32,nI_add,m9_0,m9_1u,own_k9_0,own_k9_1,own_k9_2,own_k9_3,own_k9_4,nb0,nb1,ou_a,Option.toList_some,Option.toList_none,List.nil_append,List.cons_append]
      refine ofW hi (by omega) n32 hK.ln hP (fun A1 l1 f1 h1 => ?_)
      simp [nI_1,m9_0,m9_1u,own_k9_0,own_k9_1,own_k9_2,own_k9_3,own_k9_4,nb0,nb1,ou_a,Option.toList_some,Option.toList_none,List.nil_append,List.cons_append]
      refine ih (j + 1) _ _ _ (by omega) (hK.fo l1 f1) h1 ?_ (okS_n _) (fun l4 l5 A' o4 o5 l' f' h' => hq l4 l5 A' o4 o5 l' (FO_t f1 f') h')
      unfold off
      split
      · show ou r.1 _ true _ = true
        rw [ou_a]
        split
        · rfl
        · exact hr
      · exact hr
    · have a' : r.1 (k * 32 + j) = false:=by cases q : r.1 (k * 32 + j) <;> simp_all
      have v11' : getA (A 11) (nI (k * 32 + j)) = 0:=by rw [v11,a']; rfl
      rw [if_neg a] at hq
      simp [e0,c1,q11,v11',o5,nI_32,nI_add,nI_1,m9_0,m9_1u,own_k9_0,own_k9_1,own_k9_2,own_k9_3,own_k9_4,nb0,nb1,ou_a,Option.toList_some,Option.toList_none,List.nil_append,List.cons_append]
      exact ih (j + 1) _ _ _ (by omega) hK hP hr (okS_n _) hq
set_option maxRecDepth 1000000 in
set_option maxHeartbeats 20000000 in
theorem rvIW {k : Nat} (hk : k < n) : ∀ (c i : Nat) (l3 l4 l5 : Slot) (r : PR) (A : Nat→List Int32),i + c = n→KC n m vop vdel vk src dst reg s A→PRc n r A→okS l3→okS l4→okS l5 →
    (∀ A',LN A'→FO A A'→PRc n (rvI n k c i r) A'→Q none (put (b + 1) pre s A' post)) →
    M9 2 [.val (.ref (b + 1)),.val (.int (nI k)),.val (.int (nI i)),l3,l4,l5] [] (put (b + 1) pre s A post) Q:=by
  intro c
  induction c with
  | zero =>
    intro i l3 l4 l5 r A e hK hP o3 o4 o5 hq
    have e0:=hK.e0
    have n32:=hK.n32
    have c1 : (nI i < nI n) = False:=lF (by omega) (by omega)
    rw [m9_2]
    simp [e0,c1,m9_0,m9_1u,own_k9_0,own_k9_1,own_k9_2,own_k9_3,own_k9_4,nb0,nb1,ou_a,Option.toList_some,Option.toList_none,List.nil_append,List.cons_append]
    exact hq A hK.ln (FO_r _) hP
  | succ c ih =>
    intro i l3 l4 l5 r A e hK hP o3 o4 o5 hq
    have e0:=hK.e0
    have n32:=hK.n32
    have c1 : (nI i < nI n) = True:=lT (by omega) (by omega)
    have q11:=in11 hK.ln (i:=i * 32 + k) (by omega)
    obtain ⟨v11,_⟩:=hP i k (by omega) hk
    rw [rvI] at hq
    rw [m9_2]
    by_cases a : r.1 (i * 32 + k) = true
    · have v11' : getA (A 11) (nI (i * 32 + k)) = 1:=by rw [v11,a]; rfl
      rw [if_pos a] at hq
      simp [e0,c1,q11,v11',o3,o4,nI_32,nI_add,m9_0,m9_1u,own_k9_0,own_k9_1,own_k9_2,own_k9_3,own_k9_4,nb0,nb1,ou_a,Option.toList_some,Option.toList_none,List.nil_append,List.cons_append]
      refine rvJW hk (by omega) n 0 _ r A (by omega) hK hP a o5 (fun l4 l5 A' o4 o5 l' f' h' => ?_)
      simp [nI_1,m9_0,m9_1u,own_k9_0,own_k9_1,own_k9_2,own_k9_3,own_k9_4,nb0,nb1,ou_a,Option.toList_some,Option.toList_none,List.nil_append,List.cons_append]
      exact ih (i + 1) _ _ _ _ _ (by omega) (hK.fo l' f') h' (okS_n _) o4 o5 (fun A'' l'' f'' h'' => hq A'' l'' (FO_t f' f'') h'')
    · have a' : r.1 (i * 32 + k) = false:=by cases q : r.1 (i * 32 + k) <;> simp_all
      have v11' : getA (A 11) (nI (i * 32 + k)) = 0:=by rw [v11,a']; rfl
      rw [if_neg a] at hq
      simp [e0,c1,q11,v11',o3,nI_32,nI_add,nI_1,m9_0,m9_1u,own_k9_0,own_k9_1,own_k9_2,own_k9_3,own_k9_4,nb0,nb1,ou_a,Option.toList_some,Option.toList_none,List.nil_append,List.cons_append]
      exact ih (i + 1) _ _ _ _ _ (by omega) hK hP (okS_n _) o4 o5 hq
theorem rvW {k : Nat} {r : PR} (hk : k < n) (hK : KC n m vop vdel vk src dst reg s A) (hP : PRc n r A) (hq : ∀ A',LN A'→FO A A'→PRc n (rvI n k n 0 r) A'→Q none (put (b + 1) pre s A' post)) :
    M9 0 [.val (.ref (b + 1)),.val (.int (nI k)),.unset,.unset,.unset,.unset] [] (put (b + 1) pre s A post) Q:=by
  simp [m9_0,m9_1u,own_k9_0,own_k9_1,own_k9_2,own_k9_3,own_k9_4,nb0,nb1,ou_a,Option.toList_some,Option.toList_none,List.nil_append,List.cons_append]
  exact rvIW hk n 0 _ _ _ r A (by omega) hK hP okS_u okS_u okS_u hq
set_option maxRecDepth 1000000 in
set_option maxHeartbeats 20000000 in
theorem cpVW {l2 : Slot} : ∀ (c k : Nat) (r : PR) (A : Nat→List Int32),k + c = n→KC n m vop vdel vk src dst reg s A→PRc n r A→(∀ A',LN A'→FO A A'→PRc n (cpV n c k r) A'→Q none (put (b + 1) pre s A' post))→M7 143 [.val (.ref (b + 1)),.val (.int (nI k)),l2] [] (put (b + 1) pre s A post) Q:=by
  intro c
  induction c with
  | zero =>
    intro k r A e hK hP hq
    have e0:=hK.e0
    have n32:=hK.n32
    have c1 : (nI k < nI n) = False:=lF (by omega) (by omega)
    rw [m7_143]
    simp [e0,c1,m7_0,m7_1u,own_k7_0,own_k7_1,m7_44,m7_45i,own_k7_2,own_k7_3,own_k7_4,own_k7_5,own_k7_6,nb0,nb1,ou_a,Option.toList_some,Option.toList_none,List.nil_append,List.cons_append]
    exact hq A hK.ln (FO_r _) hP
  | succ c ih =>
    intro k r A e hK hP hq
    have e0:=hK.e0
    have n32:=hK.n32
    have c1 : (nI k < nI n) = True:=lT (by omega) (by omega)
    rw [cpV] at hq
    rw [m7_143]
    simp [e0,c1,m7_0,m7_1u,own_k7_0,own_k7_1,m7_44,m7_45i,own_k7_2,own_k7_3,own_k7_4,own_k7_5,own_k7_6,nb0,nb1,ou_a,Option.toList_some,Option.toList_none,List.nil_append,List.cons_append]
    refine rvW (by omega) hK hP (fun A1 l1 f1 h1 => ?_)
    simp [nI_1,m7_0,m7_1u,own_k7_0,own_k7_1,m7_44,m7_45i,own_k7_2,own_k7_3,own_k7_4,own_k7_5,own_k7_6,nb0,nb1,ou_a,Option.toList_some,Option.toList_none,List.nil_append,List.cons_append]
    exact ih (k + 1) _ _ (by omega) (hK.fo l1 f1) h1 (fun A' l' f' h' => hq A' l' (FO_t f1 f') h')
set_option maxRecDepth 1000000 in
set_option maxHeartbeats 20000000 in
theorem cpEW {l2 : Slot} : ∀ (c e : Nat) (r : PR) (A : Nat→List Int32),e + c = m→KC n m vop vdel vk src dst reg s A→PRc n r A→(∀ A',LN A'→FO A A'→PRc n (cpV n n 0 (cpE reg vdel src dst c e r)) A'→Q none (put (b + 1) pre s A' post))→M7 90 [.val (.ref (b + 1)),.val (.int (nI e)),l2] [] (put (b + 1) pre s A post) Q:=by
  intro c
  induction c with
  | zero =>
    intro e r A er hK hP hq
    have e1:=hK.e1
    have m64:=hK.m64
    have c1 : (nI e < nI m) = False:=lF (by omega) (by omega)
    rw [m7_90]
    simp [e1,c1,m7_0,m7_1u,own_k7_0,own_k7_1,m7_44,m7_45i,own_k7_2,own_k7_3,own_k7_4,own_k7_5,own_k7_6,nb0,nb1,ou_a,Option.toList_some,Option.toList_none,List.nil_append,List.cons_append]
    exact cpVW n 0 r A (by omega) hK hP hq
  | succ c ih =>
    intro e r A er hK hP hq
    have e1:=hK.e1
    have m64:=hK.m64
    have n32:=hK.n32
    have sd:=hK.lt (e:=e) (by omega)
    have c1 : (nI e < nI m) = True:=lT (by omega) (by omega)
    have q3:=in3 hK.ln (i:=e) (by omega)
    have v3:=hK.sr e (by omega)
    have q4:=in4 hK.ln (i:=e) (by omega)
    have v4:=hK.ds e (by omega)
    have q5:=in5 hK.ln (i:=e) (by omega)
    have v5:=hK.rg e (by omega)
    have q1:=in1 hK.ln (i:=src e) (by omega)
    have v1:=hK.vd (src e) sd.1
    rw [cpE] at hq
    rw [m7_90]
    simp [e1,c1,q3,v3,q4,v4,q5,v5,q1,v1,nI_32,nI_add,m7_0,m7_1u,own_k7_0,own_k7_1,m7_44,m7_45i,own_k7_2,own_k7_3,own_k7_4,own_k7_5,own_k7_6,nb0,nb1,ou_a,Option.toList_some,Option.toList_none,List.nil_append,List.cons_append]
    refine ofW sd.1 sd.2 n32 hK.ln hP (fun A1 l1 f1 h1 => ?_)
    simp [nI_1,m7_0,m7_1u,own_k7_0,own_k7_1,m7_44,m7_45i,own_k7_2,own_k7_3,own_k7_4,own_k7_5,own_k7_6,nb0,nb1,ou_a,Option.toList_some,Option.toList_none,List.nil_append,List.cons_append]
    exact ih (e + 1) _ _ (by omega) (hK.fo l1 f1) h1 (fun A' l' f' h' => hq A' l' (FO_t f1 f') h')
set_option maxRecDepth 1000000 in
set_option maxHeartbeats 20000000 in
theorem cpDW : ∀ (c i : Nat) (l2 : Slot) (r : PR) (A : Nat→List Int32),i + c = n→KC n m vop vdel vk src dst reg s A→PRc n r A→okS l2→(∀ A',LN A'→FO A A'→PRc n (cpV n n 0 (cpE reg vdel src dst m 0 (cpD c i r))) A'→Q none (put (b + 1) pre s A' post))→M7 46 [.val (.ref (b + 1)),.val (.int (nI i)),l2] [] (put (b + 1) pre s A post) Q:=by
  intro c
  induction c with
  | zero =>
    intro i l2 r A e hK hP o2 hq
    have e0:=hK.e0
    have n32:=hK.n32
    have c1 : (nI i < nI n) = False:=lF (by omega) (by omega)
    rw [m7_46]
    simp [e0,c1,m7_0,m7_1u,own_k7_0,own_k7_1,m7_44,m7_45i,own_k7_2,own_k7_3,own_k7_4,own_k7_5,own_k7_6,nb0,nb1,ou_a,Option.toList_some,Option.toList_none,List.nil_append,List.cons_append]
    exact cpEW m 0 r A (by omega) hK hP hq
  | succ c ih =>
    intro i l2 r A e hK hP o2 hq
    have e0:=hK.e0
    have n32:=hK.n32
    have c1 : (nI i < nI n) = True:=lT (by omega) (by omega)
    have q9:=in9 hK.ln (i:=i * 32 + i) (by omega)
    have q10:=in10 hK.ln (i:=i * 32 + i) (by omega)
    have q11:=in11 hK.ln (i:=i * 32 + i) (by omega)
    have fin:=PRc_set (w:=0) (y:=0) (k:=i * 32 + i) (by omega) hK.ln n32 hP
    rw [cpD] at hq
    rw [m7_46]
    simp [e0,c1,q9,q10,q11,o2,nI_32,nI_add,nI_1,m7_0,m7_1u,own_k7_0,own_k7_1,m7_44,m7_45i,own_k7_2,own_k7_3,own_k7_4,own_k7_5,own_k7_6,nb0,nb1,ou_a,Option.toList_some,Option.toList_none,List.nil_append,List.cons_append]
    exact ih (i + 1) _ _ _ (by omega) (hK.fo (LN3 hK.ln) FO3) fin (okS_n _) (fun A' l' f' h' => hq A' l' (FO_t FO3 f') h')
set_option maxRecDepth 1000000 in
set_option maxHeartbeats 20000000 in
theorem cpZ {i : Nat} (hi : i < n) : ∀ (c j : Nat) (A : Nat→List Int32),j + c = n→KC n m vop vdel vk src dst reg s A→(∀ i' j',i' < n→j' < n→(i' < i ∨ (i' = i∧j' < j))→getA (A 11) (nI (i' * 32 + j')) = 0) →
    (∀ A',LN A'→FO A A'→(∀ i' j',i' < n→j' < n→i' < i + 1→getA (A' 11) (nI (i' * 32 + j')) = 0)→M7 2 [.val (.ref (b + 1)),.val (.int (nI (i + 1))),.val (.int (nI n))] [] (put (b + 1) pre s A' post) Q)→M7 12 [.val (.ref (b + 1)),.val (.int (nI i)),.val (.int (nI j))] [] (put (b + 1) pre s A post) Q:=by
  intro c
  induction c with
  | zero =>
    intro j A e hK hz hq
    have e0:=hK.e0
    have n32:=hK.n32
    obtain rfl : j = n:=by omega
    have c1 : (nI j < nI j) = False:=lF (by omega) (by omega)
    rw [m7_12]
    simp [e0,c1,nI_1,m7_0,m7_1u,own_k7_0,own_k7_1,m7_44,m7_45i,own_k7_2,own_k7_3,own_k7_4,own_k7_5,own_k7_6,nb0,nb1,ou_a,Option.toList_some,Option.toList_none,List.nil_append,List.cons_append]
    exact hq A hK.ln (FO_r _) (fun i' j' h1 h2 h3 => hz i' j' h1 h2 (by omega))
  | succ c ih =>
    intro j A e hK hz hq
    have e0:=hK.e0
    have n32:=hK.n32
    have c1 : (nI j < nI n) = True:=lT (by omega) (by omega)
    have q11:=in11 hK.ln (i:=i * 32 + j) (by omega)
    have l11:=ln11 hK.ln
    have f1 : FO A (ou A 11 (setA (A 11) (nI (i * 32 + j)) 0)):=fun k _ _ c => by rw [ou_a,if_neg c]
    rw [m7_12]
    simp [e0,c1,q11,nI_32,nI_add,nI_1,m7_0,m7_1u,own_k7_0,own_k7_1,m7_44,m7_45i,own_k7_2,own_k7_3,own_k7_4,own_k7_5,own_k7_6,nb0,nb1,ou_a,Option.toList_some,Option.toList_none,List.nil_append,List.cons_append]
    refine ih (j + 1) _ (by omega) (hK.fo (LN_set hK.ln) f1) (fun i' j' h1 h2 h3 => ?_) (fun A' l' f' h' => hq A' l' (FO_t f1 f') h')
    show getA (setA (A 11) _ _) _ = _
    rw [cf_set (by omega) (by omega) (by omega)]
    split
    · rfl
    · exact hz i' j' h1 h2 (by omega)
theorem cpI : ∀ (c i : Nat) (l2 : Slot) (A : Nat→List Int32),i + c = n→KC n m vop vdel vk src dst reg s A→okS l2→(∀ i' j',i' < n→j' < n→i' < i→getA (A 11) (nI (i' * 32 + j')) = 0) →
    (∀ A',LN A'→FO A A'→PRc n (pairs n m reg vdel src dst) A'→Q none (put (b + 1) pre s A' post))→M7 2 [.val (.ref (b + 1)),.val (.int (nI i)),l2] [] (put (b + 1) pre s A post) Q:=by
  intro c
  induction c with
  | zero =>
    intro i l2 A e hK o2 hz hq
    have e0:=hK.e0
    have n32:=hK.n32
    have c1 : (nI i < nI n) = False:=lF (by omega) (by omega)
    rw [m7_2]
    simp [e0,c1,m7_0,m7_1u,own_k7_0,own_k7_1,m7_44,m7_45i,own_k7_2,own_k7_3,own_k7_4,own_k7_5,own_k7_6,nb0,nb1,ou_a,Option.toList_some,Option.toList_none,List.nil_append,List.cons_append]
    exact cpDW n 0 _ (fun _ => false,fun _ => 0,fun _ => 0) A (by omega) hK (fun i' j' h1 h2 => ⟨hz i' j' h1 h2 (by omega),fun q => by cases q⟩) o2 hq
  | succ c ih =>
    intro i l2 A e hK o2 hz hq
    have e0:=hK.e0
    have n32:=hK.n32
    have c1 : (nI i < nI n) = True:=lT (by omega) (by omega)
    rw [m7_2]
    simp [e0,c1,o2,m7_0,m7_1u,own_k7_0,own_k7_1,m7_44,m7_45i,own_k7_2,own_k7_3,own_k7_4,own_k7_5,own_k7_6,nb0,nb1,ou_a,Option.toList_some,Option.toList_none,List.nil_append,List.cons_append]
    exact cpZ (by omega) n 0 A (by omega) hK (fun i' j' h1 h2 h3 => hz i' j' h1 h2 (by omega)) (fun A' l' f' h' => ih (i + 1) _ A' (by omega) (hK.fo l' f') (okS_n _) h' (fun A'' l'' f'' h'' => hq A'' l'' (FO_t f' f'') h''))
theorem cpW (hK : KC n m vop vdel vk src dst reg s A) (hq : ∀ A',LN A'→FO A A'→PRc n (pairs n m reg vdel src dst) A'→Q none (put (b + 1) pre s A' post)) : M7 0 [.val (.ref (b + 1)),.unset,.unset] [] (put (b + 1) pre s A post) Q:=by
  simp [m7_0,m7_1u,own_k7_0,own_k7_1,m7_44,m7_45i,own_k7_2,own_k7_3,own_k7_4,own_k7_5,own_k7_6,nb0,nb1,ou_a,Option.toList_some,Option.toList_none,List.nil_append,List.cons_append]
  exact cpI n 0 _ A (by omega) hK okS_u (fun i' j' h1 h2 h3 => absurd h3 (by omega)) hq
theorem nar_b2 (b : Bool) : nar .boolean (b2 b) = b2 b:=by cases b <;> decide
def FD (A A' : Nat→List Int32) : Prop:=∀ k,k ≠ 12→A' k = A k
theorem FD_r (A : Nat→List Int32) : FD A A:=fun _ _ => rfl
theorem FD_t {A A' A'' : Nat→List Int32} (h : FD A A') (h' : FD A' A'') : FD A A'':=fun k a => (h' k a).trans (h k a)
theorem FD_o {A : Nat→List Int32} {l : List Int32} : FD A (ou A 12 l):=fun k a => by rw [ou_a,if_neg a]
theorem KC.fd {A' : Nat→List Int32} (h : KC n m vop vdel vk src dst reg s A) (hl : LN A') (f : FD A A') : KC n m vop vdel vk src dst reg s A':=h.ar hl (fun k hk => f k (by omega))
theorem PRc.fd {r : PR} {A' : Nat→List Int32} (h : PRc n r A) (f : FD A A') : PRc n r A':=by
  unfold PRc
  rw [f 9 (by decide),f 10 (by decide),f 11 (by decide)]
  exact h
set_option maxRecDepth 1000000 in
set_option maxHeartbeats 20000000 in
theorem rpVW {r : PR} {cc : Int32} {u : Nat} (hu : u < n) : ∀ (k v : Nat) (l5 l6 : Slot) (t : DC) (A : Nat→List Int32),v + k = n→KC n m vop vdel vk src dst reg s A→PRc n r A→CF (A 12) t.1 n→okS l5→okS l6 →
    (∀ l5 l6 A',okS l5→okS l6→LN A'→FD A A'→CF (A' 12) (rpV r vdel cc u k v t).1 n→M12 71 [.val (.ref (b + 1)),.val (.int (cc)),.val (.int (b2 (rpV r vdel cc u k v t).2)),.val (.int (nI (u + 1))),.val (.int (nI n)),l5,l6] [] (put (b + 1) pre s A' post) Q) →
    M12 82 [.val (.ref (b + 1)),.val (.int (cc)),.val (.int (b2 t.2)),.val (.int (nI u)),.val (.int (nI v)),l5,l6] [] (put (b + 1) pre s A post) Q:=by
  intro k
  induction k with
  | zero =>
    intro v l5 l6 t A e hK hP hd o5 o6 hq
    have e0:=hK.e0
    have n32:=hK.n32
    obtain rfl : v = n:=by omega
    have c1 : (nI v < nI v) = False:=lF (by omega) (by omega)
    rw [m12_82]
    simp [e0,c1,nI_1,own_k12_0,own_k12_1,own_k12_2,own_k12_3,own_k12_4,own_k12_5,own_k12_6,own_k12_7,own_k12_8,nb0,nb1,ou_a,Option.toList_some,Option.toList_none,List.nil_append,List.cons_append]
    exact hq _ _ A o5 o6 hK.ln (FD_r _) hd
  | succ k ih =>
    intro v l5 l6 t A e hK hP hd o5 o6 hq
    have e0:=hK.e0
    have n32:=hK.n32
    have c1 : (nI v < nI n) = True:=lT (by omega) (by omega)
    have q11:=in11 hK.ln (i:=u * 32 + v) (by omega)
    obtain ⟨v11,hv⟩:=hP u v hu (by omega)
    have l12:=ln12 hK.ln
    rw [rpV] at hq
    rw [m12_82]
    by_cases a : r.1 (u * 32 + v) = true
    · have v11' : getA (A 11) (nI (u * 32 + v)) = 1:=by rw [v11,a]; rfl
      obtain ⟨v9,v10⟩:=hv a
      have q9:=in9 hK.ln (i:=u * 32 + v) (by omega)
      have q10:=in10 hK.ln (i:=u * 32 + v) (by omega)
      have q1:=in1 hK.ln (i:=v) (by omega)
      have v1:=hK.vd v (by omega)
      by_cases a1 : cc < r.2.2 (u * 32 + v) + vdel v
      · have z1:=eq_true a1
        have q12:=in12 hK.ln (i:=v) (by omega)
        have w12:=in12 hK.ln (i:=u) (by omega)
        have d12:=hd v (by omega)
        have d12':=hd u hu
        rw [if_pos ⟨a,a1⟩] at hq
        by_cases a2 : t.1 v + r.2.1 (u * 32 + v) - 1 < t.1 u
        · have z2:=eq_true a2
          rw [if_pos a2] at hq
          simp [e0,c1,q11,v11',q10,v10,q1,v1,z1,q9,v9,q12,w12,d12,d12',z2,o5,o6,nI_32,nI_add,nI_1,own_k12_0,own_k12_1,own_k12_2,own_k12_3,own_k12_4,own_k12_5,own_k12_6,own_k12_7,own_k12_8,nb0,nb1,ou_a,Option.toList_some,Option.toList_none,List.nil_append,List.cons_append]
          exact ih (v + 1) _ _ (ou t.1 u (t.1 v + r.2.1 (u * 32 + v) - 1),true) _ (by omega) (hK.fd (LN_set hK.ln) FD_o) (hP.fd FD_o) (CF_set hd (by omega) (by omega) (by omega)) (okS_n _) (okS_i _) (fun l5 l6 A' o5 o6 l' f' h' => hq l5 l6 A' o5 o6 l' (FD_t FD_o f') h')
        · have z2:=eq_false a2
          rw [if_neg a2] at hq
          simp [e0,c1,q11,v11',q10,v10,q1,v1,z1,q9,v9,q12,w12,d12,d12',z2,o5,o6,nI_32,nI_add,nI_1,own_k12_0,own_k12_1,own_k12_2,own_k12_3,own_k12_4,own_k12_5,own_k12_6,own_k12_7,own_k12_8,nb0,nb1,ou_a,Option.toList_some,Option.toList_none,List.nil_append,List.cons_append]
          exact ih (v + 1) _ _ _ _ (by omega) hK hP hd (okS_n _) (okS_i _) hq
      · have z1:=eq_false a1
        rw [if_neg (fun q => a1 q.2)] at hq
        simp [e0,c1,q11,v11',q10,v10,q1,v1,z1,o5,nI_32,nI_add,nI_1,own_k12_0,own_k12_1,own_k12_2,own_k12_3,own_k12_4,own_k12_5,own_k12_6,own_k12_7,own_k12_8,nb0,nb1,ou_a,Option.toList_some,Option.toList_none,List.nil_append,List.cons_append]
        exact ih (v + 1) _ _ _ _ (by omega) hK hP hd (okS_n _) o6 hq
    · have a' : r.1 (u * 32 + v) = false:=by cases q : r.1 (u * 32 + v) <;> simp_all
      have v11' : getA (A 11) (nI (u * 32 + v)) = 0:=by rw [v11,a']; rfl
      rw [if_neg (fun q => a q.1)] at hq
      simp [e0,c1,q11,v11',o5,nI_32,nI_add,nI_1,own_k12_0,own_k12_1,own_k12_2,own_k12_3,own_k12_4,own_k12_5,own_k12_6,own_k12_7,own_k12_8,nb0,nb1,ou_a,Option.toList_some,Option.toList_none,List.nil_append,List.cons_append]
      exact ih (v + 1) _ _ _ _ (by omega) hK hP hd (okS_n _) o6 hq
set_option maxRecDepth 1000000 in
set_option maxHeartbeats 20000000 in
theorem rpUW {r : PR} {cc : Int32} : ∀ (k u : Nat) (l4 l5 l6 : Slot) (t : DC) (A : Nat→List Int32),u + k = n→KC n m vop vdel vk src dst reg s A→PRc n r A→CF (A 12) t.1 n→okS l4→okS l5→okS l6 →
    (∀ A',LN A'→FD A A'→CF (A' 12) (rpU n r vdel cc k u t).1 n→Q (some (.int (b2 (rpU n r vdel cc k u t).2))) (put (b + 1) pre s A' post)) →
    M12 71 [.val (.ref (b + 1)),.val (.int (cc)),.val (.int (b2 t.2)),.val (.int (nI u)),l4,l5,l6] [] (put (b + 1) pre s A post) Q:=by
  intro k
  induction k with
  | zero =>
    intro u l4 l5 l6 t A e hK hP hd o4 o5 o6 hq
    have e0:=hK.e0
    have n32:=hK.n32
    have c1 : (nI u < nI n) = False:=lF (by omega) (by omega)
    rw [m12_71]
    simp [e0,c1,nar_b2,own_k12_0,own_k12_1,own_k12_2,own_k12_3,own_k12_4,own_k12_5,own_k12_6,own_k12_7,own_k12_8,nb0,nb1,ou_a,Option.toList_some,Option.toList_none,List.nil_append,List.cons_append]
    exact hq A hK.ln (FD_r _) hd
  | succ k ih =>
    intro u l4 l5 l6 t A e hK hP hd o4 o5 o6 hq
    have e0:=hK.e0
    have n32:=hK.n32
    have c1 : (nI u < nI n) = True:=lT (by omega) (by omega)
    rw [rpU] at hq
    rw [m12_71]
    simp [e0,c1,o4,own_k12_0,own_k12_1,own_k12_2,own_k12_3,own_k12_4,own_k12_5,own_k12_6,own_k12_7,own_k12_8,nb0,nb1,ou_a,Option.toList_some,Option.toList_none,List.nil_append,List.cons_append]
    exact rpVW (by omega) n 0 _ _ t A (by omega) hK hP hd o5 o6 (fun l5 l6 A' o5 o6 l' f' h' => ih (u + 1) _ _ _ _ A' (by omega) (hK.fd l' f') (hP.fd f') h' (okS_n _) o5 o6 (fun A'' l'' f'' h'' => hq A'' l'' (FD_t f' f'') h''))
set_option maxRecDepth 1000000 in
set_option maxHeartbeats 20000000 in
theorem rpEW {r : PR} {cc : Int32} : ∀ (k e : Nat) (l4 l5 : Slot) (t : DC) (A : Nat→List Int32),e + k = m→KC n m vop vdel vk src dst reg s A→PRc n r A→CF (A 12) t.1 n→okS l4→okS l5 →
    (∀ A',LN A'→FD A A'→CF (A' 12) (rpU n r vdel cc n 0 (rpE reg src dst k e t)).1 n→Q (some (.int (b2 (rpU n r vdel cc n 0 (rpE reg src dst k e t)).2))) (put (b + 1) pre s A' post)) →
    M12 4 [.val (.ref (b + 1)),.val (.int (cc)),.val (.int (b2 t.2)),.val (.int (nI e)),l4,l5,.unset] [] (put (b + 1) pre s A post) Q:=by
  intro k
  induction k with
  | zero =>
    intro e l4 l5 t A er hK hP hd o4 o5 hq
    have e1:=hK.e1
    have m64:=hK.m64
    have c1 : (nI e < nI m) = False:=lF (by omega) (by omega)
    rw [m12_4]
    simp [e1,c1,own_k12_0,own_k12_1,own_k12_2,own_k12_3,own_k12_4,own_k12_5,own_k12_6,own_k12_7,own_k12_8,nb0,nb1,ou_a,Option.toList_some,Option.toList_none,List.nil_append,List.cons_append]
    exact rpUW n 0 _ _ _ t A (by omega) hK hP hd o4 o5 okS_u hq
  | succ k ih =>
    intro e l4 l5 t A er hK hP hd o4 o5 hq
    have e1:=hK.e1
    have m64:=hK.m64
    have n32:=hK.n32
    have sd:=hK.lt (e:=e) (by omega)
    have c1 : (nI e < nI m) = True:=lT (by omega) (by omega)
    have q3:=in3 hK.ln (i:=e) (by omega)
    have v3:=hK.sr e (by omega)
    have q4:=in4 hK.ln (i:=e) (by omega)
    have v4:=hK.ds e (by omega)
    have q5:=in5 hK.ln (i:=e) (by omega)
    have v5:=hK.rg e (by omega)
    have q12:=in12 hK.ln (i:=dst e) (by omega)
    have w12:=in12 hK.ln (i:=src e) (by omega)
    have d12:=hd (dst e) sd.2
    have d12':=hd (src e) sd.1
    have l12:=ln12 hK.ln
    rw [rpE] at hq
    rw [m12_4]
    by_cases a2 : t.1 (dst e) + reg e < t.1 (src e)
    · have z2:=eq_true a2
      rw [if_pos a2] at hq
      simp [e1,c1,q3,v3,q4,v4,q5,v5,q12,w12,d12,d12',z2,o4,o5,nI_1,own_k12_0,own_k12_1,own_k12_2,own_k12_3,own_k12_4,own_k12_5,own_k12_6,own_k12_7,own_k12_8,nb0,nb1,ou_a,Option.toList_some,Option.toList_none,List.nil_append,List.cons_append]
      exact ih (e + 1) _ _ (ou t.1 (src e) (t.1 (dst e) + reg e),true) _ (by omega) (hK.fd (LN_set hK.ln) FD_o) (hP.fd FD_o) (CF_set hd (by omega) (by omega) (by omega)) (okS_n _) (okS_i _) (fun A' l' f' h' => hq A' l' (FD_t FD_o f') h')
    · have z2:=eq_false a2
      rw [if_neg a2] at hq
      simp [e1,c1,q3,v3,q4,v4,q5,v5,q12,w12,d12,d12',z2,o4,o5,nI_1,own_k12_0,own_k12_1,own_k12_2,own_k12_3,own_k12_4,own_k12_5,own_k12_6,own_k12_7,own_k12_8,nb0,nb1,ou_a,Option.toList_some,Option.toList_none,List.nil_append,List.cons_append]
      exact ih (e + 1) _ _ _ _ (by omega) hK hP hd (okS_n _) (okS_i _) hq
theorem rpW {r : PR} {cc : Int32} {d : Nat→Int32} (hK : KC n m vop vdel vk src dst reg s A) (hP : PRc n r A) (hd : CF (A 12) d n) (hq : ∀ A',LN A'→FD A A'→CF (A' 12) (rpass n m reg vdel src dst r cc d).1 n→Q (some (.int (b2 (rpass n m reg vdel src dst r cc d).2))) (put (b + 1) pre s A' post)) :
    M12 0 [.val (.ref (b + 1)),.val (.int (cc)),.unset,.unset,.unset,.unset,.unset] [] (put (b + 1) pre s A post) Q:=by
  simp [own_k12_0,own_k12_1,own_k12_2,own_k12_3,own_k12_4,own_k12_5,own_k12_6,own_k12_7,own_k12_8,nb0,nb1,ou_a,Option.toList_some,Option.toList_none,List.nil_append,List.cons_append]
  exact rpEW m 0 _ _ (d,false) A (by omega) hK hP hd okS_u okS_u hq
set_option maxRecDepth 1000000 in
set_option maxHeartbeats 20000000 in
theorem feLW {r : PR} {cc : Int32} : ∀ (f p : Nat) (d : Nat→Int32) (A : Nat→List Int32),p + f = n + 2→KC n m vop vdel vk src dst reg s A→PRc n r A→CF (A 12) d n →
    (∀ A',LN A'→FD A A'→CF (A' 12) (feaL n m reg vdel src dst r cc f d).1 n→Q (some (.int (b2 (feaL n m reg vdel src dst r cc f d).2))) (put (b + 1) pre s A' post))→M11 25 [.val (.ref (b + 1)),.val (.int (cc)),.val (.int (nI p))] [] (put (b + 1) pre s A post) Q:=by
  intro f
  induction f with
  | zero =>
    intro p d A e hK hP hd hq
    have e0:=hK.e0
    have n32:=hK.n32
    have c1 : (nI (n + 1) < nI p) = True:=lT (by omega) (by omega)
    rw [m11_25]
    simp [e0,c1,nI_1,m11_0,m11_1u,own_k11_0,own_k11_1,nb0,nb1,ou_a,Option.toList_some,Option.toList_none,List.nil_append,List.cons_append]
    exact hq A hK.ln (FD_r _) hd
  | succ f ih =>
    intro p d A e hK hP hd hq
    have e0:=hK.e0
    have n32:=hK.n32
    have c1 : (nI (n + 1) < nI p) = False:=lF (by omega) (by omega)
    rw [feaL] at hq
    rw [m11_25]
    simp [e0,c1,nI_1,m11_0,m11_1u,own_k11_0,own_k11_1,nb0,nb1,ou_a,Option.toList_some,Option.toList_none,List.nil_append,List.cons_append]
    refine rpW hK hP hd (fun A1 l1 f1 h1 => ?_)
    by_cases z : (rpass n m reg vdel src dst r cc d).2 = true
    · have z1 : (b2 (rpass n m reg vdel src dst r cc d).2 = 0) = False:=by rw [z]; exact eq_false (by decide)
      rw [if_pos z] at hq
      simp [z1,nI_1,m11_0,m11_1u,own_k11_0,own_k11_1,nb0,nb1,ou_a,Option.toList_some,Option.toList_none,List.nil_append,List.cons_append]
      exact ih (p + 1) _ _ (by omega) (hK.fd l1 f1) (hP.fd f1) h1 (fun A' l' f' h' => hq A' l' (FD_t f1 f') h')
    · have z' : (rpass n m reg vdel src dst r cc d).2 = false:=by cases q : (rpass n m reg vdel src dst r cc d).2 <;> simp_all
      have z1 : (b2 (rpass n m reg vdel src dst r cc d).2 = 0) = True:=by rw [z']; exact eq_true (by decide)
      rw [if_neg z] at hq
      simp [z1,m11_0,m11_1u,own_k11_0,own_k11_1,nb0,nb1,ou_a,Option.toList_some,Option.toList_none,List.nil_append,List.cons_append]
      exact hq A1 l1 f1 h1
theorem feZ {r : PR} {cc : Int32} : ∀ (k i : Nat) (A : Nat→List Int32),i + k = n→KC n m vop vdel vk src dst reg s A→PRc n r A→CF (A 12) (fun _ => 0) i →
    (∀ A',LN A'→FD A A'→CF (A' 12) (feas n m reg vdel src dst r cc).1 n→Q (some (.int (b2 (feas n m reg vdel src dst r cc).2))) (put (b + 1) pre s A' post))→M11 2 [.val (.ref (b + 1)),.val (.int (cc)),.val (.int (nI i))] [] (put (b + 1) pre s A post) Q:=by
  intro k
  induction k with
  | zero =>
    intro i A e hK hP hd hq
    have e0:=hK.e0
    have n32:=hK.n32
    obtain rfl : i = n:=by omega
    have c1 : (nI i < nI i) = False:=lF (by omega) (by omega)
    rw [m11_2]
    simp [e0,c1,m11_0,m11_1u,own_k11_0,own_k11_1,nb0,nb1,ou_a,Option.toList_some,Option.toList_none,List.nil_append,List.cons_append]
    exact feLW (i + 2) 0 _ A (by omega) hK hP hd hq
  | succ k ih =>
    intro i A e hK hP hd hq
    have e0:=hK.e0
    have n32:=hK.n32
    have c1 : (nI i < nI n) = True:=lT (by omega) (by omega)
    have q12:=in12 hK.ln (i:=i) (by omega)
    have l12:=ln12 hK.ln
    rw [m11_2]
    simp [e0,c1,q12,nI_1,m11_0,m11_1u,own_k11_0,own_k11_1,nb0,nb1,ou_a,Option.toList_some,Option.toList_none,List.nil_append,List.cons_append]
    refine ih (i + 1) _ (by omega) (hK.fd (LN_set hK.ln) FD_o) (hP.fd FD_o) (fun j hj => ?_) (fun A' l' f' h' => hq A' l' (FD_t FD_o f') h')
    show getA (setA (A 12) _ _) _ = _
    rw [cf_set (by omega) (by omega) (by omega)]
    split
    · rfl
    · exact hd j (by omega)
theorem feW {r : PR} {cc : Int32} (hK : KC n m vop vdel vk src dst reg s A) (hP : PRc n r A) (hq : ∀ A',LN A'→FD A A'→CF (A' 12) (feas n m reg vdel src dst r cc).1 n→Q (some (.int (b2 (feas n m reg vdel src dst r cc).2))) (put (b + 1) pre s A' post)) :
    M11 0 [.val (.ref (b + 1)),.val (.int (cc)),.unset] [] (put (b + 1) pre s A post) Q:=by
  simp [m11_0,m11_1u,own_k11_0,own_k11_1,nb0,nb1,ou_a,Option.toList_some,Option.toList_none,List.nil_append,List.cons_append]
  exact feZ n 0 A (by omega) hK hP (fun i hi => absurd hi (by omega)) hq
set_option maxRecDepth 1000000 in
set_option maxHeartbeats 20000000 in
theorem smL {r : PR} : ∀ (f t : Nat) (lo hi : Int32) (l4 : Slot) (A : Nat→List Int32),t + f = 40→KC n m vop vdel vk src dst reg s A→PRc n r A→okS l4 →
    (∀ A',LN A'→FD A A'→Q (some (.int (smin (fun cc => (feas n m reg vdel src dst r cc).2) f lo hi))) (put (b + 1) pre s A' post))→M10 9 [.val (.ref (b + 1)),.val (.int (lo)),.val (.int (hi)),.val (.int (nI t)),l4] [] (put (b + 1) pre s A post) Q:=by
  intro f
  induction f with
  | zero =>
    intro t lo hi l4 A e hK hP o4 hq
    have c1 : (nI t < 40) = False:=lF (c:=40) (by omega) (by omega)
    rw [m10_9]
    simp [c1,own_k10_0,own_k10_1,own_k10_2,nb0,nb1,ou_a,Option.toList_some,Option.toList_none,List.nil_append,List.cons_append]
    exact hq A hK.ln (FD_r _)
  | succ f ih =>
    intro t lo hi l4 A e hK hP o4 hq
    have c1 : (nI t < 40) = True:=lT (c:=40) (by omega) (by decide)
    rw [smin] at hq
    rw [m10_9]
    by_cases z : lo < hi
    · have z1:=eq_true z
      simp only [if_pos z] at hq
      simp [c1,z1,o4,own_k10_0,own_k10_1,own_k10_2,nb0,nb1,ou_a,Option.toList_some,Option.toList_none,List.nil_append,List.cons_append]
      refine feW hK hP (fun A1 l1 f1 h1 => ?_)
      by_cases y : (feas n m reg vdel src dst r (lo + (hi - lo) / 2)).2 = true
      · have y1 : (b2 (feas n m reg vdel src dst r (lo + (hi - lo) / 2)).2 = 0) = False:=by rw [y]; exact eq_false (by decide)
        rw [if_pos y] at hq
        simp [y1,nI_1,own_k10_0,own_k10_1,own_k10_2,nb0,nb1,ou_a,Option.toList_some,Option.toList_none,List.nil_append,List.cons_append]
        exact ih (t + 1) _ _ _ _ (by omega) (hK.fd l1 f1) (hP.fd f1) (okS_i _) (fun A' l' f' => hq A' l' (FD_t f1 f'))
      · have y' : (feas n m reg vdel src dst r (lo + (hi - lo) / 2)).2 = false:=by cases q : (feas n m reg vdel src dst r (lo + (hi - lo) / 2)).2 <;> simp_all
        have y1 : (b2 (feas n m reg vdel src dst r (lo + (hi - lo) / 2)).2 = 0) = True:=by rw [y']; exact eq_true (by decide)
        rw [if_neg y] at hq
        simp [y1,nI_1,own_k10_0,own_k10_1,own_k10_2,nb0,nb1,ou_a,Option.toList_some,Option.toList_none,List.nil_append,List.cons_append]
        exact ih (t + 1) _ _ _ _ (by omega) (hK.fd l1 f1) (hP.fd f1) (okS_i _) (fun A' l' f' => hq A' l' (FD_t f1 f'))
    · have z1:=eq_false z
      simp only [if_neg z] at hq
      simp [c1,z1,own_k10_0,own_k10_1,own_k10_2,nb0,nb1,ou_a,Option.toList_some,Option.toList_none,List.nil_append,List.cons_append]
      exact hq A hK.ln (FD_r _)
theorem smW {r : PR} (hK : KC n m vop vdel vk src dst reg s A) (hP : PRc n r A) (hq : ∀ A',LN A'→FD A A'→Q (some (.int (smin (fun cc => (feas n m reg vdel src dst r cc).2) 40 0 (s 6)))) (put (b + 1) pre s A' post)) : M10 0 [.val (.ref (b + 1)),.unset,.unset,.unset,.unset] [] (put (b + 1) pre s A post) Q:=by
  simp [own_k10_0,own_k10_1,own_k10_2,nb0,nb1,ou_a,Option.toList_some,Option.toList_none,List.nil_append,List.cons_append]
  exact smL 40 0 0 (s 6) _ A (by omega) hK hP okS_u hq
def FL (A A' : Nat→List Int32) : Prop:=∀ k,k ≠ 6→k ≠ 13→A' k = A k
theorem FL_t {A A' A'' : Nat→List Int32} (h : FL A A') (h' : FL A' A'') : FL A A'':=fun k a c => (h' k a c).trans (h k a c)
theorem FL_o {A : Nat→List Int32} {j : Nat} {l : List Int32} (h : j = 6 ∨ j = 13) : FL A (ou A j l):=fun k a c => by rw [ou_a,if_neg (by omega)]
theorem KC.fl {A' : Nat→List Int32} (h : KC n m vop vdel vk src dst reg s A) (hl : LN A') (f : FL A A') : KC n m vop vdel vk src dst reg s A':=h.ar hl (fun k hk => f k (by omega) (by omega))
set_option maxRecDepth 1000000 in
set_option maxHeartbeats 20000000 in
theorem alE {d : Nat→Int32} : ∀ (k e : Nat) (A : Nat→List Int32),e + k = m→KC n m vop vdel vk src dst reg s A→CF (A 13) (lagF d) n→CF (A 6) (newF reg d src dst) e →
    (∀ A',LN A'→FL A A'→CF (A' 13) (lagF d) n→CF (A' 6) (newF reg d src dst) m→Q none (put (b + 1) pre s A' post))→M13 37 [.val (.ref (b + 1)),.val (.int (nI e))] [] (put (b + 1) pre s A post) Q:=by
  intro k
  induction k with
  | zero =>
    intro e A er hK h13 h6 hq
    have e1:=hK.e1
    have m64:=hK.m64
    obtain rfl : e = m:=by omega
    have c1 : (nI e < nI e) = False:=lF (by omega) (by omega)
    rw [m13_37]
    simp [e1,c1,m13_0,m13_1u,own_k13_0,own_k13_1,own_k13_2,own_k13_3,nb0,nb1,ou_a,Option.toList_some,Option.toList_none,List.nil_append,List.cons_append]
    exact hq A hK.ln (fun _ _ _ => rfl) h13 h6
  | succ k ih =>
    intro e A er hK h13 h6 hq
    have e1:=hK.e1
    have m64:=hK.m64
    have n32:=hK.n32
    have sd:=hK.lt (e:=e) (by omega)
    have c1 : (nI e < nI m) = True:=lT (by omega) (by omega)
    have q3:=in3 hK.ln (i:=e) (by omega)
    have v3:=hK.sr e (by omega)
    have q4:=in4 hK.ln (i:=e) (by omega)
    have v4:=hK.ds e (by omega)
    have q5:=in5 hK.ln (i:=e) (by omega)
    have v5:=hK.rg e (by omega)
    have q6:=in6 hK.ln (i:=e) (by omega)
    have q13:=in13 hK.ln (i:=dst e) (by omega)
    have w13:=in13 hK.ln (i:=src e) (by omega)
    have d13:=h13 (dst e) sd.2
    have d13':=h13 (src e) sd.1
    have l6:=ln6 hK.ln
    rw [m13_37]
    simp [e1,c1,q3,v3,q4,v4,q5,v5,q6,q13,w13,d13,d13',nI_1,m13_0,m13_1u,own_k13_0,own_k13_1,own_k13_2,own_k13_3,nb0,nb1,ou_a,Option.toList_some,Option.toList_none,List.nil_append,List.cons_append]
    refine ih (e + 1) _ (by omega) (hK.fl (LN_set hK.ln) (FL_o (Or.inl rfl))) h13 (fun i hi => ?_) (fun A' l' f' h' h'' => hq A' l' (FL_t (FL_o (Or.inl rfl)) f') h' h'')
    show getA (setA (A 6) _ _) _ = _
    rw [cf_set (by omega) (by omega) (by omega)]
    split
    · rename_i z; rw [z]; rfl
    · exact h6 i (by omega)
theorem alV {d : Nat→Int32} : ∀ (k i : Nat) (A : Nat→List Int32),i + k = n→KC n m vop vdel vk src dst reg s A→CF (A 12) d n→CF (A 13) (lagF d) i →
    (∀ A',LN A'→FL A A'→CF (A' 13) (lagF d) n→CF (A' 6) (newF reg d src dst) m→Q none (put (b + 1) pre s A' post))→M13 2 [.val (.ref (b + 1)),.val (.int (nI i))] [] (put (b + 1) pre s A post) Q:=by
  intro k
  induction k with
  | zero =>
    intro i A er hK h12 h13 hq
    have e0:=hK.e0
    have n32:=hK.n32
    obtain rfl : i = n:=by omega
    have c1 : (nI i < nI i) = False:=lF (by omega) (by omega)
    rw [m13_2]
    simp [e0,c1,m13_0,m13_1u,own_k13_0,own_k13_1,own_k13_2,own_k13_3,nb0,nb1,ou_a,Option.toList_some,Option.toList_none,List.nil_append,List.cons_append]
    exact alE m 0 A (by omega) hK h13 (fun i hi => absurd hi (by omega)) hq
  | succ k ih =>
    intro i A er hK h12 h13 hq
    have e0:=hK.e0
    have n32:=hK.n32
    have c1 : (nI i < nI n) = True:=lT (by omega) (by omega)
    have q12:=in12 hK.ln (i:=i) (by omega)
    have w12 : inB 0 (A 12):=in12 hK.ln (i:=0) (by omega)
    have d12:=h12 i (by omega)
    have d12' : getA (A 12) 0 = d 0:=h12 0 (by omega)
    have q13:=in13 hK.ln (i:=i) (by omega)
    have l13:=ln13 hK.ln
    rw [m13_2]
    simp [e0,c1,q12,w12,d12,d12',q13,nI_1,m13_0,m13_1u,own_k13_0,own_k13_1,own_k13_2,own_k13_3,nb0,nb1,ou_a,Option.toList_some,Option.toList_none,List.nil_append,List.cons_append]
    refine ih (i + 1) _ (by omega) (hK.fl (LN_set hK.ln) (FL_o (Or.inr rfl))) h12 (fun j hj => ?_) (fun A' l' f' h' h'' => hq A' l' (FL_t (FL_o (Or.inr rfl)) f') h' h'')
    show getA (setA (A 13) _ _) _ = _
    rw [cf_set (by omega) (by omega) (by omega)]
    split
    · rename_i z; rw [z]; rfl
    · exact h13 j (by omega)
theorem alW {d : Nat→Int32} (hK : KC n m vop vdel vk src dst reg s A) (h12 : CF (A 12) d n) (hq : ∀ A',LN A'→FL A A'→CF (A' 13) (lagF d) n→CF (A' 6) (newF reg d src dst) m→Q none (put (b + 1) pre s A' post)) : M13 0 [.val (.ref (b + 1)),.unset] [] (put (b + 1) pre s A post) Q:=by
  simp [m13_0,m13_1u,own_k13_0,own_k13_1,own_k13_2,own_k13_3,nb0,nb1,ou_a,Option.toList_some,Option.toList_none,List.nil_append,List.cons_append]
  exact alV n 0 A (by omega) hK h12 (fun i hi => absurd hi (by omega)) hq
/-- the retimed state -/
def KR (n m : Nat) (vdel reg : Nat→Int32) (src dst : Nat→Nat) (s : Nat→Int32) (A : Nat→List Int32) : Prop:=0 < n∧(cO n m reg src dst).2 = n∧s 4 = 1∧s 5 = cM n m vdel reg src dst∧s 6 = (cP n m vdel reg src dst).2∧s 7 = cP1 n m vdel reg src dst∧CF (A 6) (cX n m vdel reg src dst) m∧CF (A 13) (lagF (cD n m vdel reg src dst)) n∧PRc n (cR n m vdel reg src dst) A
/-- ranges of delays and registers -/
def RGE (n m : Nat) (vdel reg : Nat→Int32) : Prop:=(∀ v,v < n→0≤(vdel v).toInt∧(vdel v).toInt≤15)∧(∀ e,e < m→0≤(reg e).toInt∧(reg e).toInt≤7)
theorem cX_nn (hn0 : 0 < n) (hK : KC n m vop vdel vk src dst reg s A) (hr : RGE n m vdel reg) (hT : (cO n m reg src dst).2 = n) : (∀ e,e < m→0≤(cX n m vdel reg src dst e).toInt)∧∃ p,cM n m vdel reg src dst = nI p∧p≤480:=by
  obtain ⟨p,e1,e2,e3⟩:=ret_c (arr:=fun _ => 0) hn0 hK.n32 hK.m64 (fun e he => hK.lt he) hr.2 hr.1 hT
  have eM : cM n m vdel reg src dst = nI p:=e1
  refine ⟨fun e he => ?_,p,eM,e2⟩
  have:=(e3 e he).1
  unfold cX cD
  rw [eM]
  exact this
theorem KC.sc {s' : Nat→Int32} (h : KC n m vop vdel vk src dst reg s A) (e : s' 0 = s 0) (e' : s' 1 = s 1) : KC n m vop vdel vk src dst reg s' A:=⟨e.trans h.1,e'.trans h.2.1,h.2.2⟩
set_option maxRecDepth 1000000 in
set_option maxHeartbeats 20000000 in
theorem rtW (hK : KC n m vop vdel vk src dst reg s A) (hr : RGE n m vdel reg) (hR : s 4 = 0 ∨ KR n m vdel reg src dst s A)
    (h1 : KR n m vdel reg src dst s A→Q (some (.int (cM n m vdel reg src dst))) (put (b + 1) pre s A post))
    (h2 : n = 0→s 4 = 0→Q (some (.int (-4))) (put (b + 1) pre s A post))
    (h3 : ∀ A',n ≠ 0→s 4 = 0→(cO n m reg src dst).2 ≠ n→LN A'→(∀ k,k ≠ 14→k ≠ 15→A' k = A k)→Q (some (.int (-5))) (put (b + 1) pre s A' post))
    (h4 : ∀ s' A',KR n m vdel reg src dst s' A'→LN A'→(∀ k,k < 6 ∨ k = 7 ∨ k = 8 ∨ k = 17→A' k = A k)→(∀ i,i < 4→s' i = s i)→Q (some (.int (cM n m vdel reg src dst))) (put (b + 1) pre s' A' post)) :
    M3 0 [.val (.ref (b + 1))] [] (put (b + 1) pre s A post) Q:=by
  have e0:=hK.e0
  have n32:=hK.n32
  have m64:=hK.m64
  rcases hR with hs | hs
  case inr =>
    have s4:=hs.2.2.1
    have s5:=hs.2.2.2.1
    simp [s4,s5,own_k3_0,own_k3_1,own_k3_2,m3_88,m3_91,nb0,nb1,ou_a,Option.toList_some,Option.toList_none,List.nil_append,List.cons_append]
    exact h1 hs
  case inl =>
  by_cases z : n = 0
  · have z1 : (nI n = 0) = True:=eq_true (congrArg nI z)
    simp [hs,e0,z1,own_k3_0,own_k3_1,own_k3_2,m3_88,m3_91,nb0,nb1,ou_a,Option.toList_some,Option.toList_none,List.nil_append,List.cons_append]
    exact h2 z hs
  have z1 : (nI n = 0) = False:=eq_false (nI_ne (c:=0) (by omega) (by decide) z)
  simp [hs,e0,z1,own_k3_0,own_k3_1,own_k3_2,m3_88,m3_91,nb0,nb1,ou_a,Option.toList_some,Option.toList_none,List.nil_append,List.cons_append]
  refine tW (c:=0) (x:=reg) (kn:=0) (o0:=fun _ => 0) hK (Or.inl ⟨rfl,hK.rg⟩) (fun i hi => absurd hi (by omega)) (by omega) (fun A1 l1 f1 _ o1 => ?_)
  by_cases y : (cO n m reg src dst).2 = n
  · have y' : (topo n m reg src dst (fun _ => 0)).2 = n:=y
    rw [y'] at o1 ⊢
    rw [if_pos rfl]
    simp [own_k3_0,own_k3_1,own_k3_2,m3_88,m3_91,nb0,nb1,ou_a,Option.toList_some,Option.toList_none,List.nil_append,List.cons_append]
    have hK1:=hK.ft l1 f1
    obtain ⟨k1,k2,k3,k4⟩:=topo_KO (x:=reg) n32 m64 (fun e he => hK.lt he) (fun _ => 0)
    rw [y'] at k1 k2 k3 k4
    obtain ⟨nn,_⟩:=cX_nn (by omega) hK hr y
    refine peW (c:=0) (x:=reg) (kp:=fun _ => False) (arr:=fun _ => 0) k2 (fun i e hi he hd hx => Or.inr (k4 i e hi he hx hd)) hK1 (Or.inl ⟨rfl,hK1.rg⟩) o1 (fun v hv q => q.elim) (fun A2 l2 f2 a2 => ?_)
    have eP : peI m reg vdel src dst (topo n m reg src dst (fun _ => 0)).1 n 0 (fun _ => 0,0) = cP n m vdel reg src dst:=rfl
    rw [eP] at a2 ⊢
    obtain ⟨best,hb⟩ : ∃ best,best = (cP n m vdel reg src dst).2:=⟨_,rfl⟩
    rw [← hb]
    have hK2 : KC n m vop vdel vk src dst reg s A2:=hK1.ar l2 (fun k hk => f2 k (by omega))
    simp [own_k3_0,own_k3_1,own_k3_2,m3_88,m3_91,nb0,nb1,ou_a,Option.toList_some,Option.toList_none,List.nil_append,List.cons_append]
    refine cpW (hK2.sc rfl rfl) (fun A3 l3 f3 r3 => ?_)
    have eR : pairs n m reg vdel src dst = cR n m vdel reg src dst:=rfl
    rw [eR] at r3
    have hK3:=hK2.fo l3 f3
    simp [own_k3_0,own_k3_1,own_k3_2,m3_88,m3_91,nb0,nb1,ou_a,Option.toList_some,Option.toList_none,List.nil_append,List.cons_append]
    refine smW (hK3.sc rfl rfl) r3 (fun A4 l4 f4 => ?_)
    have hK4:=hK3.fd l4 f4
    have e6 : (ou s 6 best) 6 = best:=by rw [ou_a,if_pos rfl]
    rw [e6]
    obtain ⟨pm,hpm⟩ : ∃ pm,pm = smin (fun cc => (feas n m reg vdel src dst (cR n m vdel reg src dst) cc).2) 40 0 best:=⟨_,rfl⟩
    rw [← hpm]
    have eM : cM n m vdel reg src dst = pm:=by rw [hpm,hb]; rfl
    simp [own_k3_0,own_k3_1,own_k3_2,m3_88,m3_91,nb0,nb1,ou_a,Option.toList_some,Option.toList_none,List.nil_append,List.cons_append]
    refine feW (hK4.sc rfl rfl) (r3.fd f4) (fun A5 l5 f5 d5 => ?_)
    have hK5:=hK4.fd l5 f5
    have eD : (feas n m reg vdel src dst (cR n m vdel reg src dst) pm).1 = cD n m vdel reg src dst:=by unfold cD; rw [eM]
    rw [eD] at d5
    generalize (feas n m reg vdel src dst (cR n m vdel reg src dst) pm).2 = fl
    simp [own_k3_0,own_k3_1,own_k3_2,m3_88,m3_91,nb0,nb1,ou_a,Option.toList_some,Option.toList_none,List.nil_append,List.cons_append]
    refine alW (hK5.sc rfl rfl) d5 (fun A6 l6 f6 g6 x6 => ?_)
    have eX : newF reg (cD n m vdel reg src dst) src dst = cX n m vdel reg src dst:=rfl
    rw [eX] at x6
    have hK6:=hK5.fl l6 f6
    simp [own_k3_0,own_k3_1,own_k3_2,m3_88,m3_91,nb0,nb1,ou_a,Option.toList_some,Option.toList_none,List.nil_append,List.cons_append]
    have o6 : CN (A6 14) (cO n m reg src dst).1 n:=by
      rw [f6 14 (by decide) (by decide),f5 14 (by decide),f4 14 (by decide),f3 14 (by decide) (by decide) (by decide),f2 14 (by decide)]
      exact o1
    refine tW (c:=1) (x:=cX n m vdel reg src dst) (kn:=n) (o0:=(cO n m reg src dst).1) (hK6.sc rfl rfl) (Or.inr ⟨rfl,x6⟩) o6 n32 (fun A7 l7 f7 o7 _ => ?_)
    have eO : topo n m (cX n m vdel reg src dst) src dst (cO n m reg src dst).1 = cO1 n m vdel reg src dst:=rfl
    rw [eO] at o7 ⊢
    have hK7:=hK6.ft l7 f7
    obtain ⟨j1,j2,_,_⟩:=topo_KO (x:=cX n m vdel reg src dst) n32 m64 (fun e he => hK.lt he) (cO n m reg src dst).1
    have kp:=topo_k (n:=n) (m:=m) (x:=cX n m vdel reg src dst) (src:=src) (dst:=dst) (cO n m reg src dst).1
    rw [eO] at j1 j2 kp
    have ho : ∀ i,i < n→(cO1 n m vdel reg src dst).1 i < n:=fun i hi => by
      by_cases q : i < (cO1 n m vdel reg src dst).2
      · exact j2 i q
      · rw [kp i (by omega)]; exact k2 i hi
    have x7 : CF (A7 6) (cX n m vdel reg src dst) m:=by rw [f7 6 (by decide) (by decide)]; exact x6
    have a7 : ∀ v,v < n→getA (A7 16) (nI v) = (cP n m vdel reg src dst).1 v:=fun v hv => by
      rw [f7 16 (by decide) (by decide),f6 16 (by decide) (by decide),f5 16 (by decide),f4 16 (by decide),f3 16 (by decide) (by decide) (by decide)]
      exact a2 v hv (Or.inr (PHs k2 k3 v hv))
    have r7 : PRc n (cR n m vdel reg src dst) A7:=by
      unfold PRc
      rw [f7 9 (by decide) (by decide),f7 10 (by decide) (by decide),f7 11 (by decide) (by decide),f6 9 (by decide) (by decide),f6 10 (by decide) (by decide),f6 11 (by decide) (by decide)]
      exact (r3.fd f4).fd f5
    generalize (if (cO1 n m vdel reg src dst).2 = n then (1 : Int32) else 0) = tl1
    simp [own_k3_0,own_k3_1,own_k3_2,m3_88,m3_91,nb0,nb1,ou_a,Option.toList_some,Option.toList_none,List.nil_append,List.cons_append]
    refine peW (c:=1) (x:=cX n m vdel reg src dst) (kp:=fun _ => True) (arr:=(cP n m vdel reg src dst).1) ho (fun i e hi he hd hx => Or.inl trivial) (hK7.sc rfl rfl) (Or.inr ⟨rfl,x7⟩) o7 (fun v hv _ => a7 v hv) (fun A8 l8 f8 _ => ?_)
    have eQ : (peI m (cX n m vdel reg src dst) vdel src dst (cO1 n m vdel reg src dst).1 n 0 ((cP n m vdel reg src dst).1,0)).2 = cP1 n m vdel reg src dst:=rfl
    rw [eQ]
    have hh:=h4 (ou (ou (ou (ou s 6 best) 5 pm) 7 (cP1 n m vdel reg src dst)) 4 1) A8 ⟨by omega,y,by rw [ou_a,if_pos rfl],by rw [eM]; simp only [ou_a]; rfl,by rw [← hb]; simp only [ou_a]; rfl,by simp only [ou_a]; rfl,?_,?_,?_⟩ l8 (fun k hk => ?_) (fun i hi => ?_)
    · rw [eM] at hh
      generalize cP1 n m vdel reg src dst = q1 at *
      simp [own_k3_0,own_k3_1,own_k3_2,m3_88,m3_91,nb0,nb1,ou_a,Option.toList_some,Option.toList_none,List.nil_append,List.cons_append]
      exact hh
    · rw [f8 6 (by decide)]; exact x7
    · rw [f8 13 (by decide),f7 13 (by decide) (by decide)]; exact g6
    · unfold PRc
      rw [f8 9 (by decide),f8 10 (by decide),f8 11 (by decide)]
      exact r7
    · rw [f8 k (by omega),f7 k (by omega) (by omega),f6 k (by omega) (by omega),f5 k (by omega),f4 k (by omega),f3 k (by omega) (by omega) (by omega),f2 k (by omega)]
      exact f1 k (by omega) (by omega)
    · simp only [ou_a]
      rw [if_neg (by omega),if_neg (by omega),if_neg (by omega),if_neg (by omega)]
  · have y' : ¬ (topo n m reg src dst (fun _ => 0)).2 = n:=y
    rw [if_neg y']
    simp [own_k3_0,own_k3_1,own_k3_2,m3_88,m3_91,nb0,nb1,ou_a,Option.toList_some,Option.toList_none,List.nil_append,List.cons_append]
    exact h3 A1 z hs y l1 f1
end Eng
/-! packed longs -/
theorem shl_b (x : Int64) : ∀ s : Fin 64,((Int64.ofNat s.val).toBitVec.smod 64) = BitVec.ofNat 64 s.val:=by decide +kernel
theorem shl_s (x : Int64) {s : Nat} (hs : s < 64) : (x <<< Int64.ofNat s).toBitVec = x.toBitVec <<< s:=by
  rw [Int64.toBitVec_shiftLeft]
  have:=shl_b x ⟨s,hs⟩
  have e : ((Int64.ofNat s).toBitVec.smod 64) = BitVec.ofNat 64 s:=this
  rw [e,BitVec.shiftLeft_eq',BitVec.toNat_ofNat,Nat.mod_eq_of_lt (by omega)]
theorem shr_s (x : Int64) {s : Nat} (hs : s < 64) {y : Int32} (hy : y.toInt64.toUInt64 &&& Int64.toUInt64 63 = UInt64.ofNat s) : (XT.ushrL x y).toBitVec = x.toBitVec >>> s:=by
  unfold XT.ushrL
  rw [hy]
  show (x.toUInt64 >>> UInt64.ofNat s).toBitVec = _
  rw [UInt64.toBitVec_shiftRight]
  have e : (UInt64.ofNat s).toBitVec % 64 = BitVec.ofNat 64 s:=by
    apply BitVec.eq_of_toNat_eq
    rw [BitVec.toNat_umod]
    show (BitVec.ofNat 64 s).toNat % (BitVec.ofNat 64 64).toNat = _
    rw [BitVec.toNat_ofNat,BitVec.toNat_ofNat,Nat.mod_eq_of_lt (show s < 2 ^ 64 by omega)]
    exact Nat.mod_eq_of_lt hs
  rw [e,BitVec.ushiftRight_eq',BitVec.toNat_ofNat,Nat.mod_eq_of_lt (by omega)]
  rfl
def W12 (b : Nat) : Prop:=b = 10 ∨ b = 12
theorem ix_r : ∀ (k : Fin 5),((nI k.val * nI 10).toInt64.toUInt64 &&& Int64.toUInt64 63 = UInt64.ofNat (k.val * 10))∧((nI k.val * nI 12).toInt64.toUInt64 &&& Int64.toUInt64 63 = UInt64.ofNat (k.val * 12))∧(nI k.val * nI 10).toInt64 &&& 63 = Int64.ofNat (k.val * 10)∧(nI k.val * nI 12).toInt64 &&& 63 = Int64.ofNat (k.val * 12):=by decide +kernel
theorem ix_s {k b : Nat} (hk : k < 5) (hb : W12 b) : (nI k * nI b).toInt64.toUInt64 &&& Int64.toUInt64 63 = UInt64.ofNat (k * b)∧(nI k * nI b).toInt64 &&& 63 = Int64.ofNat (k * b):=by
  have:=ix_r ⟨k,hk⟩
  rcases hb with rfl | rfl
  · exact ⟨this.1,this.2.2.1⟩
  · exact ⟨this.2.1,this.2.2.2⟩
theorem mk_r : ∀ (i : Fin 64),(((1 : Int64) <<< ((nI 10).toInt64 &&& 63)) - 1).toBitVec.getLsbD i.val = decide (i.val < 10)∧(((1 : Int64) <<< ((nI 12).toInt64 &&& 63)) - 1).toBitVec.getLsbD i.val = decide (i.val < 12):=by decide +kernel
theorem mk_s {b i : Nat} (hb : W12 b) (hi : i < 64) : (((1 : Int64) <<< ((nI b).toInt64 &&& 63)) - 1).toBitVec.getLsbD i = decide (i < b):=by
  have:=mk_r ⟨i,hi⟩
  rcases hb with rfl | rfl
  · exact this.1
  · exact this.2
def gf (p : Int64) (i b : Int32) : Int32:=(XT.ushrL p (i * b) &&& ((1 <<< (b.toInt64 &&& 63)) - 1)).toInt32
def pf (p : Int64) (i b v : Int32) : Int64:=(p &&& (((((1 : Int64) <<< (b.toInt64 &&& 63)) - 1) <<< ((i * b).toInt64 &&& 63)) ^^^ -1)) ||| ((v.toInt64 <<< ((i * b).toInt64 &&& 63)) &&& ((((1 : Int64) <<< (b.toInt64 &&& 63)) - 1) <<< ((i * b).toInt64 &&& 63)))
theorem gf_b (p : Int64) {k b i : Nat} (hk : k < 5) (hb : W12 b) (hi : i < 32) : (gf p (nI k) (nI b)).toBitVec.getLsbD i = (decide (i < b) && p.toBitVec.getLsbD (k * b + i)):=by
  have b12 : b≤12:=by rcases hb with rfl | rfl <;> decide
  have s1 : k * b < 64:=Nat.lt_of_le_of_lt (Nat.mul_le_mul (Nat.le_of_lt_succ hk) b12) (by decide)
  unfold gf
  rw [Int64.toBitVec_toInt32,BitVec.getLsbD_signExtend,Int64.toBitVec_and,BitVec.getLsbD_and,mk_s hb (by omega),shr_s p s1 (ix_s hk hb).1,BitVec.getLsbD_ushiftRight]
  simp [hi,show i < 64 by omega,Bool.and_comm]
theorem pf_b (p : Int64) {k b v j : Nat} (hk : k < 5) (hb : W12 b) (hv : v < 65536) (hj : j < 64) : (pf p (nI k) (nI b) (nI v)).toBitVec.getLsbD j = if k * b≤j∧j < k * b + b then v.testBit (j - k * b) else p.toBitVec.getLsbD j:=by
  have b12 : b≤12:=by rcases hb with rfl | rfl <;> decide
  have s1 : k * b < 64:=Nat.lt_of_le_of_lt (Nat.mul_le_mul (Nat.le_of_lt_succ hk) b12) (by decide)
  have pv : ((nI v).toInt64).toBitVec = BitVec.ofNat 64 v:=by
    have : (nI v).toInt64 = Int64.ofNat v:=by
      apply Int64.toInt_inj.mp
      rw [Int32.toInt_toInt64,Int64.toInt_ofNat_of_lt (by omega)]
      exact Int32.toInt_ofNat_of_lt (by omega)
    rw [this]; rfl
  have m1 : (-1 : Int64).toBitVec = BitVec.allOnes 64:=by decide
  have mk : ((((1 : Int64) <<< ((nI b).toInt64 &&& 63)) - 1) <<< ((nI k * nI b).toInt64 &&& 63)).toBitVec.getLsbD j = decide (k * b≤j∧j < k * b + b):=by
    rw [(ix_s hk hb).2,shl_s _ s1,BitVec.getLsbD_shiftLeft]
    by_cases z : j < k * b
    · simp [z,show ¬ k * b≤j by omega]
    · rw [mk_s hb (by omega)]
      simp [z,hj,show k * b≤j by omega]
      omega
  have vl : ((nI v).toInt64 <<< ((nI k * nI b).toInt64 &&& 63)).toBitVec.getLsbD j = (decide (k * b≤j) && v.testBit (j - k * b)):=by
    rw [(ix_s hk hb).2,shl_s _ s1,BitVec.getLsbD_shiftLeft,pv,BitVec.getLsbD_ofNat]
    by_cases z : j < k * b
    · simp [z,show ¬ k * b≤j by omega]
    · simp [z,hj,show k * b≤j by omega,show j - k * b < 64 by omega]
  unfold pf
  rw [Int64.toBitVec_or,BitVec.getLsbD_or,Int64.toBitVec_and,BitVec.getLsbD_and,Int64.toBitVec_and,BitVec.getLsbD_and,Int64.toBitVec_xor,BitVec.getLsbD_xor,mk,vl,m1,BitVec.getLsbD_allOnes]
  by_cases z : k * b≤j∧j < k * b + b
  · simp [z,hj]
  · rw [if_neg z]; simp only [z,hj]; simp
theorem gf_eq {p : Int64} {k b v : Nat} (hk : k < 5) (hb : W12 b) (hv : v < 2 ^ b) : gf (pf p (nI k) (nI b) (nI v)) (nI k) (nI b) = nI v:=by
  have b12 : b≤12:=by rcases hb with rfl | rfl <;> decide
  have s1 : k * b≤4 * 12:=Nat.mul_le_mul (Nat.le_of_lt_succ hk) b12
  have v6 : v < 65536:=Nat.lt_of_lt_of_le hv (Nat.pow_le_pow_right (n:=2) (by decide) (show b≤16 by omega))
  apply Int32.toBitVec_inj.mp
  apply BitVec.eq_of_getLsbD_eq
  intro i hi
  rw [gf_b _ hk hb hi]
  have e : (nI v).toBitVec.getLsbD i = v.testBit i:=by
    show (BitVec.ofNat 32 v).getLsbD i = _
    rw [BitVec.getLsbD_ofNat]
    simp [hi]
  rw [e]
  by_cases z : i < b
  · rw [pf_b _ hk hb v6 (by omega),if_pos (by omega),Nat.add_sub_cancel_left]
    simp [z]
  · have : v.testBit i = false:=Nat.testBit_lt_two_pow (Nat.lt_of_lt_of_le hv (Nat.pow_le_pow_right (n:=2) (by decide) (Nat.le_of_not_lt z)))
    simp [z,this]
theorem gf_ne {p : Int64} {k k' b v : Nat} (hk : k < 5) (hk' : k' < 5) (hn : k' ≠ k) (hb : W12 b) (hv : v < 65536) : gf (pf p (nI k) (nI b) (nI v)) (nI k') (nI b) = gf p (nI k') (nI b):=by
  have b12 : b≤12:=by rcases hb with rfl | rfl <;> decide
  have s1 : k' * b≤4 * 12:=Nat.mul_le_mul (Nat.le_of_lt_succ hk') b12
  apply Int32.toBitVec_inj.mp
  apply BitVec.eq_of_getLsbD_eq
  intro i hi
  rw [gf_b _ hk' hb hi,gf_b _ hk' hb hi]
  by_cases z : i < b
  · rw [pf_b _ hk hb hv (by omega),if_neg]
    rcases Nat.lt_or_ge k' k with q | q
    · have : (k' + 1) * b≤k * b:=Nat.mul_le_mul_right b q
      rw [Nat.add_mul,Nat.one_mul] at this
      omega
    · have : (k + 1) * b≤k' * b:=Nat.mul_le_mul_right b (by omega)
      rw [Nat.add_mul,Nat.one_mul] at this
      omega
  · simp [z]
/-- the fields below n -/
def PK (b : Nat) (p : Int64) (n : Nat) (f : Nat→Nat) : Prop:=∀ i,i < n→gf p (nI i) (nI b) = nI (f i)
theorem PK_set {b n i v : Nat} {p : Int64} {f : Nat→Nat} (h : PK b p n f) (hn : n≤5) (hi : i < 5) (hb : W12 b) (hv : v < 2 ^ b) : PK b (pf p (nI i) (nI b) (nI v)) n (ou f i v):=by
  intro j hj
  rw [ou_a]
  by_cases z : j = i
  · rw [if_pos z,z]; exact gf_eq hi hb hv
  · have b12 : b≤12:=by rcases hb with rfl | rfl <;> decide
    have v6 : v < 65536:=Nat.lt_of_lt_of_le hv (Nat.pow_le_pow_right (n:=2) (by decide) (show b≤16 by omega))
    rw [if_neg z,gf_ne hi (by omega) z hb v6]; exact h j hj
theorem PK_push {b n v : Nat} {p : Int64} {f : Nat→Nat} (h : PK b p n f) (hn : n < 5) (hb : W12 b) (hv : v < 2 ^ b) : PK b (pf p (nI n) (nI b) (nI v)) (n + 1) (ou f n v):=by
  intro j hj
  rw [ou_a]
  by_cases z : j = n
  · rw [if_pos z,z]; exact gf_eq hn hb hv
  · have b12 : b≤12:=by rcases hb with rfl | rfl <;> decide
    have v6 : v < 65536:=Nat.lt_of_lt_of_le hv (Nat.pow_le_pow_right (n:=2) (by decide) (show b≤16 by omega))
    rw [if_neg z,gf_ne hn (by omega) z hb v6]; exact h j (by omega)
/-- a mask's bits -/
def ZB (w : Int64) (j : Nat) : Bool:=w.toBitVec.getLsbD j
theorem zb_r : ∀ j : Fin 16,((nI j.val).toInt64.toUInt64 &&& Int64.toUInt64 63 = UInt64.ofNat j.val)∧(nI j.val).toInt64 &&& 63 = Int64.ofNat j.val:=by decide +kernel
theorem zb_g {w : Int64} {j : Nat} (hj : j < 16) : XT.ushrL w (nI j) &&& 1 = if ZB w j = true then 1 else 0:=by
  apply Int64.toBitVec_inj.mp
  apply BitVec.eq_of_getLsbD_eq
  intro i hi
  rw [Int64.toBitVec_and,BitVec.getLsbD_and,shr_s w (by omega) (zb_r ⟨j,hj⟩).1,BitVec.getLsbD_ushiftRight]
  have o : (1 : Int64).toBitVec.getLsbD i = decide (i = 0):=by
    have : ∀ i : Fin 64,(1 : Int64).toBitVec.getLsbD i.val = decide (i.val = 0):=by decide +kernel
    exact this ⟨i,hi⟩
  rw [o]
  by_cases z : i = 0
  · subst z
    unfold ZB
    by_cases y : w.toBitVec.getLsbD j = true
    · rw [if_pos y,Nat.add_zero,y]; decide
    · have y' : w.toBitVec.getLsbD j = false:=by simpa using y
      rw [if_neg y,Nat.add_zero,y']; decide
  · by_cases y : ZB w j = true
    · rw [if_pos y,o]; simp [z]
    · rw [if_neg y]; simp [z]
theorem zb_s {w : Int64} {j i : Nat} (hj : j < 16) (hi : i < 64) : ZB (w ||| (1 <<< ((nI j).toInt64 &&& 63))) i = (ZB w i || decide (i = j)):=by
  unfold ZB
  rw [Int64.toBitVec_or,BitVec.getLsbD_or,(zb_r ⟨j,hj⟩).2,shl_s _ (by show j < 64; omega),BitVec.getLsbD_shiftLeft]
  have o : (1 : Int64).toBitVec.getLsbD (i - j) = decide (i - j = 0):=by
    have : ∀ i : Fin 64,(1 : Int64).toBitVec.getLsbD i.val = decide (i.val = 0):=by decide +kernel
    exact this ⟨i - j,by omega⟩
  show (w.toBitVec.getLsbD i || (decide (i < 64) && !decide (i < j) && (1 : Int64).toBitVec.getLsbD (i - j))) = _
  rw [o]
  by_cases z : i = j
  · subst z; simp [hi]
  · by_cases y : i < j
    · simp [y,z]
    · simp [y,z]; omega
theorem zb_0 (i : Nat) : ZB 0 i = false:=by
  unfold ZB
  show (0#64).getLsbD i = false
  exact BitVec.getLsbD_zero
/-! shortest pairs from one source: the law's rounds -/
section Sp
variable {n m u : Nat} {src dst rg del g W D : Nat→Nat} {rc : Nat→Bool}
theorem cB_lt {p q : Nat→Bool} {k a : Nat} (ha : a < k) (h : ∀ i,i < k→p i = true→q i = true) (hp : p a = false) (hq : q a = true) : cB p k < cB q k:=by
  rw [cB_rm k ha hq]
  have : cB p k≤cB (fun i => q i && decide (i ≠ a)) k:=cB_mono k (fun i hi hpi => by
    have : i ≠ a:=fun e => by rw [e,hp] at hpi; cases hpi
    simp [h i hi hpi,this])
  omega
/-- the best pairs of u: reached, weight, delay of the whole path -/
def SP (n m u : Nat) (src dst rg del : Nat→Nat) (rc : Nat→Bool) (W D : Nat→Nat) : Prop :=
  (rc u = true∧W u = 0∧D u = del u) ∧
  (∀ e,e < m→rc (src e) = true→rc (dst e) = true∧(W (dst e) < W (src e) + rg e ∨ (W (dst e) = W (src e) + rg e∧D (src e) + del (dst e)≤D (dst e)))) ∧
  (∀ v,v < n→rc v = true→v = u ∨ ∃ e,e < m∧dst e = v∧rc (src e) = true∧W v = W (src e) + rg e∧D v = D (src e) + del v)
def mu (W g : Nat→Nat) (v : Nat) : Nat:=W v * 5 + g v
def rk (n : Nat) (rc : Nat→Bool) (W g : Nat→Nat) (v : Nat) : Nat:=cB (fun a => rc a && decide (mu W g a < mu W g v)) n
theorem rk_lt {v : Nat} (hv : v < n) : rk n rc W g v < n:=by
  have h : rk n rc W g v < cB (fun _ => true) n:=cB_lt hv (fun _ _ _ => rfl) (by simp) rfl
  have:=cB_le (fun _ => true) n
  omega
theorem rk_e {a v : Nat} (ha : a < n) (hr : rc a = true) (h : mu W g a < mu W g v) : rk n rc W g a < rk n rc W g v :=
  cB_lt ha (fun i _ hi => by
    simp only [Bool.and_eq_true,decide_eq_true_eq] at hi ⊢
    exact ⟨hi.1,by omega⟩) (by simp) (by simp [hr,h])
/-- the tight edge ahead of v -/
theorem SP.ti (h : SP n m u src dst rg del rc W D) (hn : n≤5) (hs : ∀ e,e < m→src e < n∧dst e < n) (hg : ∀ v,v < n→g v < n) (hk : ∀ e,e < m→rg e = 0→g (src e) < g (dst e)) {v : Nat} (hv : v < n) (hr : rc v = true) (hu : v ≠ u) :
    ∃ e,e < m∧dst e = v∧rc (src e) = true∧W v = W (src e) + rg e∧D v = D (src e) + del v∧rk n rc W g (src e) < rk n rc W g v:=by
  rcases h.2.2 v hv hr with q | ⟨e,he,h1,h2,h3,h4⟩
  · exact absurd q hu
  · refine ⟨e,he,h1,h2,h3,h4,rk_e (hs e he).1 h2 ?_⟩
    have g1:=hg (src e) (hs e he).1
    unfold mu
    by_cases z : rg e = 0
    · have:=hk e he z
      rw [h1] at this
      omega
    · omega
theorem SP.bd (h : SP n m u src dst rg del rc W D) (hn : n≤5) (hs : ∀ e,e < m→src e < n∧dst e < n) (hg : ∀ v,v < n→g v < n) (hk : ∀ e,e < m→rg e = 0→g (src e) < g (dst e)) (hd : ∀ v,v < n→del v≤15) (hr7 : ∀ e,e < m→rg e≤7) : ∀ (k v : Nat),v < n→rc v = true→rk n rc W g v≤k→D v≤15 * (rk n rc W g v + 1)∧W v≤7 * rk n rc W g v∧del v≤D v:=by
  intro k
  induction k with
  | zero =>
    intro v hv hr hk0
    by_cases z : v = u
    · have:=hd v hv
      rw [z] at this ⊢
      rw [h.1.2.1,h.1.2.2]
      omega
    · obtain ⟨e,he,h1,h2,h3,h4,h5⟩:=h.ti hn hs hg hk hv hr z
      omega
  | succ k ih =>
    intro v hv hr hk0
    have dv:=hd v hv
    by_cases z : v = u
    · rw [z] at dv ⊢
      rw [h.1.2.1,h.1.2.2]
      omega
    · obtain ⟨e,he,h1,h2,h3,h4,h5⟩:=h.ti hn hs hg hk hv hr z
      have:=ih (src e) (hs e he).1 h2 (by omega)
      have:=hr7 e he
      omega
/-- the law's number for v -/
def co (W D : Nat→Nat) (v : Nat) : Nat:=128 * (W v + 1) - D v
def B5 (n m : Nat) (src dst rg del g : Nat→Nat) : Prop:=n≤5∧(∀ e,e < m→src e < n∧dst e < n)∧(∀ v,v < n→g v < n)∧(∀ e,e < m→rg e = 0→g (src e) < g (dst e))∧(∀ v,v < n→del v≤15)∧∀ e,e < m→rg e≤7
theorem SP.b5 (h : SP n m u src dst rg del rc W D) (b : B5 n m src dst rg del g) {v : Nat} (hv : v < n) (hr : rc v = true) : D v≤75∧W v≤28∧del v≤D v:=by
  have q:=h.bd b.1 b.2.1 b.2.2.1 b.2.2.2.1 b.2.2.2.2.1 b.2.2.2.2.2 n v hv hr (Nat.le_of_lt (rk_lt hv))
  have:=rk_lt (rc:=rc) (W:=W) (g:=g) hv
  have:=b.1
  omega
theorem SP.tri (h : SP n m u src dst rg del rc W D) (b : B5 n m src dst rg del g) {e : Nat} (he : e < m) (hr : rc (src e) = true) : rc (dst e) = true∧co W D (dst e) + del (dst e)≤co W D (src e) + 128 * rg e:=by
  have sd:=b.2.1 e he
  obtain ⟨h1,h2⟩:=h.2.1 e he hr
  have q1:=h.b5 b sd.1 hr
  have q2:=h.b5 b sd.2 h1
  have q3:=b.2.2.2.2.1 _ sd.2
  refine ⟨h1,?_⟩
  unfold co
  omega
def I1 (n : Nat) (rc : Nat→Bool) (W D f : Nat→Nat) : Prop:=∀ v,v < n→f v = 4095 ∨ (rc v = true∧co W D v≤f v∧f v < 4095)
def I2 (n u k : Nat) (rc : Nat→Bool) (W D g f : Nat→Nat) : Prop:=f u = co W D u∧∀ v,v < n→rc v = true→rk n rc W g v≤k→f v = co W D v
def I3 (n u k j : Nat) (src dst rg del : Nat→Nat) (rc : Nat→Bool) (W D g f : Nat→Nat) : Prop:=∀ e,e < j→rc (src e) = true→rk n rc W g (src e)≤k→f (dst e) + del (dst e)≤co W D (src e) + 128 * rg e
/-- one edge -/
theorem I_step {k j : Nat} {f : Nat→Nat} (h : SP n m u src dst rg del rc W D) (b : B5 n m src dst rg del g) (hj : j < m) (h1 : I1 n rc W D f) (h2 : I2 n u k rc W D g f) (h3 : I3 n u k j src dst rg del rc W D g f) (hf : f (src j) ≠ 4095) (hc : f (src j) + 128 * rg j - del (dst j) < f (dst j)) :
    I1 n rc W D (ou f (dst j) (f (src j) + 128 * rg j - del (dst j)))∧I2 n u k rc W D g (ou f (dst j) (f (src j) + 128 * rg j - del (dst j)))∧I3 n u k (j + 1) src dst rg del rc W D g (ou f (dst j) (f (src j) + 128 * rg j - del (dst j))):=by
  have sd:=b.2.1 j hj
  have q:=(h1 (src j) sd.1).resolve_left hf
  obtain ⟨t1,t2⟩:=h.tri b hj q.1
  have dd:=b.2.2.2.2.1 _ sd.2
  have low : co W D (dst j)≤f (src j) + 128 * rg j - del (dst j):=by omega
  have b1:=h.b5 b sd.1 q.1
  have c1 : 53≤co W D (src j):=by unfold co; omega
  have fd : f (dst j)≤4095:=by rcases h1 (dst j) sd.2 with z | z <;> omega
  refine ⟨fun v hv => ?_,⟨?_,fun v hv hr hk => ?_⟩,fun e he hr hk => ?_⟩
  · rw [ou_a]
    by_cases z : v = dst j
    · rw [if_pos z,z]; exact Or.inr ⟨t1,low,by omega⟩
    · rw [if_neg z]; exact h1 v hv
  · rw [ou_a]
    by_cases z : u = dst j
    · rw [if_pos z]; have:=h2.1; rw [z] at this ⊢; omega
    · rw [if_neg z]; exact h2.1
  · rw [ou_a]
    by_cases z : v = dst j
    · rw [if_pos z]; have:=h2.2 v hv hr hk; rw [z] at this ⊢; omega
    · rw [if_neg z]; exact h2.2 v hv hr hk
  · rw [ou_a]
    by_cases y : e = j
    · subst y
      rw [if_pos rfl]
      have:=h2.2 (src e) sd.1 hr hk
      omega
    · have o:=h3 e (by omega) hr hk
      by_cases z : dst e = dst j
      · rw [if_pos z]; rw [z] at o ⊢; omega
      · rw [if_neg z]; exact o
theorem I_skip {k j : Nat} {f : Nat→Nat} (h : SP n m u src dst rg del rc W D) (b : B5 n m src dst rg del g) (hj : j < m) (h1 : I1 n rc W D f) (h2 : I2 n u k rc W D g f) (h3 : I3 n u k j src dst rg del rc W D g f) (hf : f (src j) = 4095 ∨ ¬ f (src j) + 128 * rg j - del (dst j) < f (dst j)) : I3 n u k (j + 1) src dst rg del rc W D g f:=fun e he hr hk => by
  by_cases y : e = j
  · subst y
    have sd:=b.2.1 e hj
    have q:=h2.2 (src e) sd.1 hr hk
    have b1:=h.b5 b sd.1 hr
    have c1 : 53≤co W D (src e)∧co W D (src e) < 4095:=by unfold co; omega
    have dd:=b.2.2.2.2.1 _ sd.2
    omega
  · exact h3 e (by omega) hr hk
theorem I_round {k : Nat} {f : Nat→Nat} (h : SP n m u src dst rg del rc W D) (b : B5 n m src dst rg del g) (h1 : I1 n rc W D f) (h2 : I2 n u k rc W D g f) (h3 : I3 n u k m src dst rg del rc W D g f) : I2 n u (k + 1) rc W D g f:=by
  refine ⟨h2.1,fun v hv hr hk => ?_⟩
  by_cases z : v = u
  · rw [z]; exact h2.1
  · obtain ⟨e,he,e1,e2,e3,e4,e5⟩:=h.ti b.1 b.2.1 b.2.2.1 b.2.2.2.1 hv hr z
    have:=h3 e he e2 (by omega)
    have b1:=h.b5 b (b.2.1 e he).1 e2
    have b2:=h.b5 b hv hr
    rw [e1] at this
    have q:=h1 v hv
    have : f v≤co W D v:=by unfold co at this ⊢; omega
    rcases q with q | q
    · have : co W D v < 4095:=by unfold co; omega
      omega
    · omega
theorem I_0 {f : Nat→Nat} (h : SP n m u src dst rg del rc W D) (b : B5 n m src dst rg del g) (hu : u < n) (hf : ∀ v,v < n→v ≠ u→f v = 4095) (hfu : f u = 128 - del u) : I1 n rc W D f∧I2 n u 0 rc W D g f:=by
  have du:=b.2.2.2.2.1 u hu
  have cu : co W D u = 128 - del u:=by unfold co; rw [h.1.2.1,h.1.2.2]
  refine ⟨fun v hv => ?_,by omega,fun v hv hr hk => ?_⟩
  · by_cases z : v = u
    · rw [z]; exact Or.inr ⟨h.1.1,by omega,by omega⟩
    · exact Or.inl (hf v hv z)
  · by_cases z : v = u
    · rw [z]; omega
    · obtain ⟨e,he,e1,e2,e3,e4,e5⟩:=h.ti b.1 b.2.1 b.2.2.1 b.2.2.2.1 hv hr z
      omega
/-- behind n rounds -/
theorem I_end {f : Nat→Nat} (h : SP n m u src dst rg del rc W D) (b : B5 n m src dst rg del g) (h1 : I1 n rc W D f) (h2 : I2 n u n rc W D g f) {v : Nat} (hv : v < n) : (rc v = true→f v = co W D v)∧(rc v = false→f v = 4095):=by
  refine ⟨fun hr => h2.2 v hv hr (Nat.le_of_lt (rk_lt hv)),fun hr => ?_⟩
  rcases h1 v hv with q | q
  · exact q
  · rw [hr] at q; cases q.1
/-- what is read back -/
theorem co_d (h : SP n m u src dst rg del rc W D) (b : B5 n m src dst rg del g) {v : Nat} (hv : v < n) (hr : rc v = true) : co W D v ≠ 4095∧co W D v < 4095∧(co W D v + 127) / 128 = W v + 1∧128 * (W v + 1) - co W D v = D v∧co W D v≤128 * (W v + 1):=by
  have q:=h.b5 b hv hr
  unfold co
  omega
end Sp
/-! the longest register-free paths: the law's rounds -/
section Pe
variable {n m : Nat} {src dst del g arr : Nat→Nat} {z : Nat→Bool} {best : Nat}
def LF (n m : Nat) (src dst del : Nat→Nat) (z : Nat→Bool) (arr : Nat→Nat) (best : Nat) (g : Nat→Nat) : Prop :=
  (∀ v,v < n→del v≤arr v∧arr v≤best)∧(∀ e,e < m→z e = true→arr (src e) + del (dst e)≤arr (dst e)∧g (src e) < g (dst e))∧(∀ v,v < n→arr v = del v ∨ ∃ e,e < m∧z e = true∧dst e = v∧arr v = arr (src e) + del v)∧(best = 0 ∨ ∃ v,v < n∧best = arr v)∧∀ v,v < n→g v < n
def ce1 (del : Nat→Nat) (v : Nat) : Nat:=del v * 16 + 1
/-- k rounds are done -/
def JU (n k : Nat) (del f : Nat→Nat) : Prop:=∀ v,v < n→ce1 del v≤f v∧f v≤241 * (k + 1)
def JL (n m k : Nat) (src dst del : Nat→Nat) (z : Nat→Bool) (arr g f : Nat→Nat) : Prop:=(∀ v,v < n→f v≤16 * arr v + (k + 1))∧∀ e,e < m→z e = true→g (dst e)≤k→f (src e) + ce1 del (dst e)≤f (dst e)
/-- inside a round, from f to h, the edges below j done -/
def JR (n j : Nat) (src dst del : Nat→Nat) (z : Nat→Bool) (f h : Nat→Nat) : Prop:=(∀ e,e < j→z e = true→f (src e) + ce1 del (dst e)≤h (dst e))∧∀ v,v < n→h v = f v ∨ ∃ e,e < j∧z e = true∧dst e = v∧h v = f (src e) + ce1 del v∧f v < h v
theorem JR_0 {f : Nat→Nat} : JR n 0 src dst del z f f:=⟨fun e he => absurd he (by omega),fun v _ => Or.inl rfl⟩
theorem JR_ge {j : Nat} {f h : Nat→Nat} (H : JR n j src dst del z f h) {v : Nat} (hv : v < n) : f v≤h v:=by
  rcases H.2 v hv with q | ⟨e,_,_,_,_,q⟩ <;> omega
theorem JR_n {j : Nat} {f h : Nat→Nat} (H : JR n j src dst del z f h) (hj : z j = false ∨ f (src j) + ce1 del (dst j)≤h (dst j)) : JR n (j + 1) src dst del z f h:=by
  refine ⟨fun e he hz => ?_,fun v hv => ?_⟩
  · by_cases y : e = j
    · subst y
      rcases hj with q | q
      · rw [q] at hz; cases hz
      · exact q
    · exact H.1 e (by omega) hz
  · rcases H.2 v hv with q | ⟨e,he,q⟩
    · exact Or.inl q
    · exact Or.inr ⟨e,by omega,q⟩
theorem JR_s {j : Nat} {f h : Nat→Nat} (H : JR n j src dst del z f h) (hd : dst j < n) (hz : z j = true) (hj : h (dst j) < f (src j) + ce1 del (dst j)) : JR n (j + 1) src dst del z f (ou h (dst j) (f (src j) + ce1 del (dst j))):=by
  have ge:=JR_ge H hd
  refine ⟨fun e he hz => ?_,fun v hv => ?_⟩
  · rw [ou_a]
    by_cases y : e = j
    · subst y; rw [if_pos rfl]; omega
    · have q:=H.1 e (by omega) hz
      by_cases x : dst e = dst j
      · rw [if_pos x]; rw [x] at q ⊢; omega
      · rw [if_neg x]; exact q
  · rw [ou_a]
    by_cases x : v = dst j
    · rw [if_pos x,x]; exact Or.inr ⟨j,by omega,hz,rfl,rfl,by omega⟩
    · rw [if_neg x]
      rcases H.2 v hv with q | ⟨e,he,q⟩
      · exact Or.inl q
      · exact Or.inr ⟨e,by omega,q⟩
theorem JU_r {k : Nat} {f h : Nat→Nat} (hU : JU n k del f) (hs : ∀ e,e < m→src e < n∧dst e < n) (hdl : ∀ v,v < n→del v≤15) (H : JR n m src dst del z f h) : JU n (k + 1) del h:=fun v hv => by
  have a:=hU v hv
  have ge:=JR_ge H hv
  have dv:=hdl v hv
  rcases H.2 v hv with q | ⟨e,he,h1,h2,h3,h4⟩
  · omega
  · have:=hU (src e) (hs e he).1
    unfold ce1 at *
    omega
theorem JL_r {k : Nat} {f h : Nat→Nat} (hs : ∀ e,e < m→src e < n∧dst e < n) (L : LF n m src dst del z arr best g) (J : JL n m k src dst del z arr g f) (H : JR n m src dst del z f h) : JL n m (k + 1) src dst del z arr g h:=by
  refine ⟨fun v hv => ?_,fun e he hz hg => ?_⟩
  · have a:=J.1 v hv
    rcases H.2 v hv with q | ⟨e,he,h1,h2,h3,h4⟩
    · omega
    · have b:=J.1 (src e) (hs e he).1
      have c:=(L.2.1 e he h1).1
      rw [h2] at c
      unfold ce1 at *
      omega
  · have gl:=(L.2.1 e he hz).2
    have r:=H.1 e he hz
    have same : h (src e) = f (src e):=by
      rcases H.2 (src e) (hs e he).1 with q | ⟨e',he',h1,h2,h3,h4⟩
      · exact q
      · have:=J.2 e' he' h1 (by rw [h2]; omega)
        rw [h2] at this
        omega
    omega
/-- a change is early -/
theorem JL_c {k : Nat} {f h : Nat→Nat} (L : LF n m src dst del z arr best g) (hs : ∀ e,e < m→src e < n∧dst e < n) (J : JL n m k src dst del z arr g f) (H : JR n m src dst del z f h) {v : Nat} (hv : v < n) (hc : f v < h v) : k + 1 < n:=by
  rcases H.2 v hv with q | ⟨e,he,h1,h2,h3,h4⟩
  · omega
  · by_cases y : g (dst e)≤k
    · have:=J.2 e he h1 y
      rw [h2] at this
      omega
    · have:=L.2.2.2.2 (dst e) (hs e he).2
      omega
theorem JL_0 (L : LF n m src dst del z arr best g) (hs : ∀ e,e < m→src e < n∧dst e < n) : JL n m 0 src dst del z arr g (ce1 del):=by
  refine ⟨fun v hv => ?_,fun e he hz hg => ?_⟩
  · have:=(L.1 v hv).1
    unfold ce1
    omega
  · have:=(L.2.1 e he hz).2
    omega
/-- at the end: the delays -/
theorem PE_d {k : Nat} {f : Nat→Nat} (L : LF n m src dst del z arr best g) (hs : ∀ e,e < m→src e < n∧dst e < n) (hk : k≤9) (J : JL n m k src dst del z arr g f) (hl : ∀ v,v < n→ce1 del v≤f v) (he : ∀ e,e < m→z e = true→f (src e) + ce1 del (dst e)≤f (dst e)) : ∀ v,v < n→f v / 16 = arr v:=by
  have low : ∀ (r v : Nat),g v < r→v < n→16 * arr v + 1≤f v:=by
    intro r
    induction r with
    | zero => intro v h; omega
    | succ r ih =>
      intro v hg hv
      rcases L.2.2.1 v hv with q | ⟨e,h0,h1,h2,h3⟩
      · have:=hl v hv
        unfold ce1 at this
        omega
      · have a:=L.2.1 e h0 h1
        have b:=he e h0 h1
        rw [h2] at a b
        have:=ih (src e) (by omega) (hs e h0).1
        unfold ce1 at b
        omega
  intro v hv
  have a:=J.1 v hv
  have b:=low (g v + 1) v (by omega) hv
  omega
def mx (f : Nat→Nat) : Nat→Nat
  | 0 => 0
  | k + 1 => if mx f k < f k then f k else mx f k
theorem mx_le {f : Nat→Nat} {b : Nat} : ∀ k,(∀ i,i < k→f i≤b)→mx f k≤b:=by
  intro k
  induction k with
  | zero => intro _; exact Nat.zero_le _
  | succ k ih =>
    intro h
    have:=ih (fun i hi => h i (by omega))
    have:=h k (by omega)
    rw [mx]
    split <;> omega
theorem mx_ge {f : Nat→Nat} : ∀ k i,i < k→f i≤mx f k:=by
  intro k
  induction k with
  | zero => intro i h; omega
  | succ k ih =>
    intro i h
    rw [mx]
    by_cases e : i = k
    · subst e; split <;> omega
    · have:=ih i (by omega)
      split <;> omega
theorem mx_b (L : LF n m src dst del z arr best g) : mx arr n = best:=by
  have a:=mx_le (f:=arr) (b:=best) n (fun i hi => (L.1 i hi).2)
  rcases L.2.2.2.1 with q | ⟨v,hv,q⟩
  · omega
  · have:=mx_ge (f:=arr) n v hv
    omega
theorem mx_ext {f h : Nat→Nat} : ∀ k,(∀ i,i < k→f i = h i)→mx f k = mx h k:=by
  intro k
  induction k with
  | zero => intro _; rfl
  | succ k ih => intro q; rw [mx,mx,ih (fun i hi => q i (by omega)),q k (by omega)]
end Pe
/-! from the engine's tables to the law's -/
section Br
variable {n m : Nat} {reg vdel x : Nat→Int32} {src dst : Nat→Nat}
def PEF (n m : Nat) (vdel x : Nat→Int32) (src dst : Nat→Nat) (s : (Nat→Int32) × Int32) (g : Nat→Nat) : Prop :=
  (∀ v,v < n→0≤(s.1 v).toInt∧(s.1 v).toInt≤480∧(vdel v).toInt≤(s.1 v).toInt∧(s.1 v).toInt≤s.2.toInt) ∧
  (∀ e,e < m→x e = 0→(s.1 (src e)).toInt + (vdel (dst e)).toInt≤(s.1 (dst e)).toInt∧g (src e) < g (dst e)) ∧
  (∀ v,v < n→(s.1 v).toInt = (vdel v).toInt ∨ ∃ e,e < m∧x e = 0∧dst e = v∧(s.1 v).toInt = (s.1 (src e)).toInt + (vdel v).toInt) ∧
  (s.2 = 0 ∨ ∃ v,v < n∧s.2 = s.1 v)∧0≤s.2.toInt∧s.2.toInt≤480∧∀ v,v < n→g v < n
theorem PEF_of (hn : n≤32) (hm : m≤64) (hsd : ∀ e,e < m→src e < n∧dst e < n) (hvd : ∀ v,v < n→0≤(vdel v).toInt∧(vdel v).toInt≤15) (o : Nat→Nat) (arr : Nat→Int32) (hT : (topo n m x src dst o).2 = n) : ∃ g,PEF n m vdel x src dst (peI m x vdel src dst (topo n m x src dst o).1 n 0 (arr,0)) g:=by
  obtain ⟨_,j2,j3,j4⟩:=topo_KO (x:=x) hn hm hsd o
  rw [hT] at j2 j3 j4
  generalize (topo n m x src dst o).1 = ord at *
  obtain ⟨a1,a2,a3,a4⟩:=per_c (arr:=arr) hn hvd j2 j3 (fun i e hi he hx hd => j4 i e hi he hx hd) hsd
  obtain ⟨t1,t2⟩:=peI_a (vdel:=vdel) j3 (fun i e hi he hx hd => j4 i e hi he hx hd) n 0 (arr,0) (by omega) ⟨fun j hj => absurd hj (by omega),Or.inl rfl⟩
  generalize peI m x vdel src dst ord n 0 (arr,0) = s at *
  obtain ⟨g,hg⟩ : ∃ g : Nat→Nat,∀ v,v < n→g v < n∧ord (g v) = v:=by
    have ex : ∀ v,∃ i,v < n→i < n∧ord i = v:=fun v => by
      by_cases h : v < n
      · obtain ⟨i,hi⟩:=PHs j2 j3 v h
        exact ⟨i,fun _ => hi⟩
      · exact ⟨0,fun q => absurd q h⟩
    exact ⟨fun v => Classical.choose (ex v),fun v => Classical.choose_spec (ex v)⟩
  refine ⟨g,a1,fun e he hx => ⟨a2 e he hx,?_⟩,fun v hv => ?_,?_,a3,a4,fun v hv => (hg v hv).1⟩
  · have g1:=hg (src e) (hsd e he).1
    have g2:=hg (dst e) (hsd e he).2
    obtain ⟨j,hj,ej⟩:=j4 (g (dst e)) e g2.1 he hx g2.2.symm
    have : g (src e) = j:=j3 _ _ g1.1 (by omega) (by rw [g1.2,ej])
    omega
  · have g1:=hg v hv
    rcases t1 (g v) g1.1 with q | ⟨e,he,hx,hd,q⟩
    · rw [g1.2] at q; exact Or.inl (by rw [q])
    · rw [g1.2] at q hd
      have b1:=a1 (src e) (hsd e he).1
      have b2:=hvd v hv
      exact Or.inr ⟨e,he,hx,hd,by rw [q]; exact add_i (by omega) (by omega)⟩
  · rcases t2 with q | ⟨j,hj,q⟩
    · exact Or.inl q
    · exact Or.inr ⟨ord j,j2 j hj,q⟩
theorem LF_of {s : (Nat→Int32) × Int32} {g del : Nat→Nat} {z : Nat→Bool} (h : PEF n m vdel x src dst s g) (hv : ∀ v,v < n→(vdel v).toInt = del v) (hsd : ∀ e,e < m→src e < n∧dst e < n) (hz : ∀ e,e < m→(z e = true ↔ x e = 0)) : LF n m src dst del z (fun v => (s.1 v).toInt.toNat) s.2.toInt.toNat g:=by
  obtain ⟨h1,h2,h3,h4,h5,h6,h7⟩:=h
  refine ⟨fun v q => ?_,fun e he q => ?_,fun v q => ?_,?_,h7⟩
  · have:=h1 v q
    have:=hv v q
    show del v≤(s.1 v).toInt.toNat∧(s.1 v).toInt.toNat≤s.2.toInt.toNat
    omega
  · have a:=h2 e he ((hz e he).mp q)
    have b1:=h1 _ (hsd e he).1
    have b2:=h1 _ (hsd e he).2
    have b3:=hv _ (hsd e he).2
    refine ⟨?_,a.2⟩
    show (s.1 (src e)).toInt.toNat + del (dst e)≤(s.1 (dst e)).toInt.toNat
    omega
  · show (s.1 v).toInt.toNat = del v ∨ _
    have b3:=hv v q
    rcases h3 v q with y | ⟨e,he,hx,hd,y⟩
    · exact Or.inl (by omega)
    · refine Or.inr ⟨e,he,(hz e he).mpr hx,hd,?_⟩
      have b1:=h1 _ (hsd e he).1
      show (s.1 v).toInt.toNat = (s.1 (src e)).toInt.toNat + del v
      omega
  · rcases h4 with y | ⟨v,q,y⟩
    · exact Or.inl (by rw [y]; rfl)
    · exact Or.inr ⟨v,q,by rw [y]⟩
/-- walks: registers, delay of all but the last (the least relation that holds of no edge and of one edge more) -/
def WK (m : Nat) (reg vdel : Nat→Int32) (src dst : Nat→Nat) (a b : Nat) (w y : Int) : Prop:=∀ R : Nat→Int→Int→Prop,R a 0 0→(∀ e w y,e < m→R (src e) w y→R (dst e) (w + (reg e).toInt) (y + (vdel (src e)).toInt))→R b w y
theorem WK.nil {a : Nat} : WK m reg vdel src dst a a 0 0:=fun _ h _ => h
theorem WK.snoc {a e : Nat} {w y : Int} (he : e < m) (h : WK m reg vdel src dst a (src e) w y) : WK m reg vdel src dst a (dst e) (w + (reg e).toInt) (y + (vdel (src e)).toInt):=fun R h0 h1 => h1 e w y he (h R h0 h1)
theorem WK.tr {a k b : Nat} {w1 y1 w2 y2 : Int} (h1 : WK m reg vdel src dst a k w1 y1) (h2 : WK m reg vdel src dst k b w2 y2) : WK m reg vdel src dst a b (w1 + w2) (y1 + y2) :=
  h2 (fun b w y => WK m reg vdel src dst a b (w1 + w) (y1 + y)) (by rw [Int.add_zero,Int.add_zero]; exact h1) (fun e w y he ih => by rw [← Int.add_assoc,← Int.add_assoc]; exact WK.snoc he ih)
theorem WK.inv {a b : Nat} {w y : Int} (h : WK m reg vdel src dst a b w y) : (b = a∧w = 0∧y = 0) ∨ ∃ e w' y',e < m∧b = dst e∧w = w' + (reg e).toInt∧y = y' + (vdel (src e)).toInt∧WK m reg vdel src dst a (src e) w' y' :=
  (h (fun b w y => WK m reg vdel src dst a b w y∧((b = a∧w = 0∧y = 0) ∨ ∃ e w' y',e < m∧b = dst e∧w = w' + (reg e).toInt∧y = y' + (vdel (src e)).toInt∧WK m reg vdel src dst a (src e) w' y')) ⟨WK.nil,Or.inl ⟨rfl,rfl,rfl⟩⟩ (fun e w y he ih => ⟨WK.snoc he ih.1,Or.inr ⟨e,w,y,he,rfl,rfl,rfl,ih.1⟩⟩)).2
theorem SP_of {s : (Nat→Int32) × Int32} {g del rg : Nat→Nat} (hn : n≤32) (h : PEF n m vdel reg src dst s g) (hsd : ∀ e,e < m→src e < n∧dst e < n) (hv : ∀ v,v < n→(vdel v).toInt = del v∧del v≤15) (hr : ∀ e,e < m→(reg e).toInt = rg e∧rg e≤7) :
    (∀ u v,u < n→v < n→(pairs n m reg vdel src dst).1 (u * 32 + v) = true→0≤((pairs n m reg vdel src dst).2.1 (u * 32 + v)).toInt∧((pairs n m reg vdel src dst).2.1 (u * 32 + v)).toInt≤231∧0≤((pairs n m reg vdel src dst).2.2 (u * 32 + v)).toInt∧((pairs n m reg vdel src dst).2.2 (u * 32 + v)).toInt≤200000) ∧
    ∀ u,u < n→SP n m u src dst rg del (fun v => (pairs n m reg vdel src dst).1 (u * 32 + v)) (fun v => ((pairs n m reg vdel src dst).2.1 (u * 32 + v)).toInt.toNat) (fun v => ((pairs n m reg vdel src dst).2.2 (u * 32 + v)).toInt.toNat + del v):=by
  obtain ⟨h1,h2,h3,h4,h5,h6,h7⟩:=h
  obtain ⟨φ,hφ⟩ : ∃ φ : Nat→Int,∀ v,φ v = (s.1 v).toInt - (vdel v).toInt:=⟨_,fun _ => rfl⟩
  have φb : ∀ v,v < n→0≤φ v∧φ v≤480:=fun v q => by have:=h1 v q; have:=hv v q; rw [hφ]; omega
  have φe : ∀ e,e < m→(reg e).toInt = 0→0≤(vdel (src e)).toInt∧(vdel (src e)).toInt≤φ (dst e) - φ (src e):=fun e he hz => by
    have z : reg e = 0:=Int32.toInt_inj.mp hz
    have:=(h2 e he z).1
    have:=hv _ (hsd e he).1
    rw [hφ,hφ]
    omega
  have hrg : ∀ e,e < m→0≤(reg e).toInt∧(reg e).toInt≤7:=fun e he => by have:=hr e he; omega
  obtain ⟨q1,q2⟩:=pairs_c (reg:=reg) (vdel:=vdel) (src:=src) (dst:=dst) (φ:=φ) hn hrg hsd (fun v q => by have:=φb v q; omega) φe
  -- a walk's bounds
  have wb : ∀ {a b : Nat} {w y : Int},a < n→WK m reg vdel src dst a b w y→b < n∧0≤w∧0≤y∧y≤φ b - φ a + 495 * w:=by
    intro a b w y ha hw
    refine hw (fun b w y => b < n∧0≤w∧0≤y∧y≤φ b - φ a + 495 * w) ⟨ha,by omega,by omega,by omega⟩ (fun e w y he ih => ?_)
    · obtain ⟨i1,i2,i3,i4⟩:=ih
      have sd:=hsd e he
      have r:=hrg e he
      have v1:=hv _ sd.1
      have b1:=φb _ sd.1
      have b2:=φb _ sd.2
      refine ⟨sd.2,by omega,by omega,?_⟩
      by_cases z : (reg e).toInt = 0
      · have:=φe e he z; omega
      · omega
  obtain ⟨w1,w2,w3⟩:=pairs_v (reg:=reg) (vdel:=vdel) (src:=src) (dst:=dst) (P:=fun a b w y => a < n∧WK m reg vdel src dst a b w y) (φ:=φ) hn hrg hsd (fun v q => by have:=φb v q; omega) φe
    ⟨fun a b w y q => by
      have k:=wb q.1 q.2
      have:=φb _ q.1
      have:=φb _ k.1
      omega,fun a k b w1 y1 w2 y2 ha hk hb p1 p2 => ⟨ha,p1.2.tr p2.2⟩⟩
    (fun a y q => by have:=wb q.1 q.2; omega) (fun a ha => ⟨ha,WK.nil⟩)
    (fun e he => ⟨(hsd e he).1,by have:=WK.snoc (reg:=reg) (vdel:=vdel) (src:=src) (dst:=dst) he (WK.nil (a:=src e)); rw [Int.zero_add,Int.zero_add] at this; exact this⟩)
  generalize pairs n m reg vdel src dst = r at *
  obtain ⟨_,w12,w13⟩:=w1
  obtain ⟨tr1,tr2⟩:=w3
  have bd : ∀ u v,u < n→v < n→r.1 (u * 32 + v) = true→0≤(r.2.1 (u * 32 + v)).toInt∧(r.2.1 (u * 32 + v)).toInt≤231∧0≤(r.2.2 (u * 32 + v)).toInt∧(r.2.2 (u * 32 + v)).toInt≤200000:=fun u v hu hv' hq => by
    have a:=wb hu (w2 u v hu hv' hq).2
    have b:=q2 u v hu hv' hq
    have:=φb u hu
    have:=φb v hv'
    omega
  refine ⟨bd,fun u hu => ?_⟩
  have uu : (r.2.2 (u * 32 + u)).toInt = 0:=by
    have a:=wb hu (w2 u u hu hu (w13 u hu).1).2
    have:=(w13 u hu).2
    omega
  have step : ∀ e,e < m→r.1 (u * 32 + src e) = true→r.1 (u * 32 + dst e) = true∧val r (u * 32 + dst e)≤val r (u * 32 + src e) + (reg e).toInt * 1048576 - (vdel (src e)).toInt:=fun e he hq => by
    have sd:=hsd e he
    have t:=tr2 e he
    have a:=w12 (src e) u (dst e) sd.1 hu sd.2 hq t.1
    have b:=tr1 (src e) u (dst e) sd.1 hu sd.2 hq t.1
    exact ⟨a,by omega⟩
  have walk : ∀ {b : Nat} {w y : Int},WK m reg vdel src dst u b w y→r.1 (u * 32 + b) = true∧val r (u * 32 + b)≤w * 1048576 - y:=by
    intro b w y hw
    refine hw (fun b w y => r.1 (u * 32 + b) = true∧val r (u * 32 + b)≤w * 1048576 - y) ⟨(w13 u hu).1,by unfold val; have:=(w13 u hu).2; omega⟩ (fun e w y he ih => ?_)
    have t:=step _ he ih.1
    exact ⟨t.1,by omega⟩
  refine ⟨⟨(w13 u hu).1,?_,?_⟩,fun e he hq => ?_,fun v hv' hq => ?_⟩
  · show (r.2.1 (u * 32 + u)).toInt.toNat = 0
    have:=(w13 u hu).2
    omega
  · show (r.2.2 (u * 32 + u)).toInt.toNat + del u = del u
    omega
  · have sd:=hsd e he
    have t:=step e he hq
    have b1:=bd u (src e) hu sd.1 hq
    have b2:=bd u (dst e) hu sd.2 t.1
    have r1:=hr e he
    have v1:=hv _ sd.1
    have v2:=hv _ sd.2
    have t2:=t.2
    unfold val at t2
    refine ⟨t.1,?_⟩
    show (r.2.1 (u * 32 + dst e)).toInt.toNat < (r.2.1 (u * 32 + src e)).toInt.toNat + rg e ∨ ((r.2.1 (u * 32 + dst e)).toInt.toNat = (r.2.1 (u * 32 + src e)).toInt.toNat + rg e∧(r.2.2 (u * 32 + src e)).toInt.toNat + del (src e) + del (dst e)≤(r.2.2 (u * 32 + dst e)).toInt.toNat + del (dst e))
    omega
  · have wk:=(w2 u v hu hv' hq).2
    rcases wk.inv with ⟨e,_,_⟩ | ⟨e,w',y',he,ev,hW,hY,hw⟩
    · exact Or.inl e
    · subst ev
      have sd:=hsd e he
      obtain ⟨c1,c2⟩:=walk hw
      have t:=step e he c1
      have b1:=bd u (src e) hu sd.1 c1
      have b2:=bd u (dst e) hu sd.2 t.1
      have k:=wb hu hw
      have r1:=hr e he
      have v1:=hv _ sd.1
      have v2:=hv _ sd.2
      have p1:=φb _ sd.1
      have p2:=φb _ hu
      have t2:=t.2
      unfold val at t2 c2
      refine Or.inr ⟨e,he,rfl,c1,?_,?_⟩
      · show (r.2.1 (u * 32 + dst e)).toInt.toNat = (r.2.1 (u * 32 + src e)).toInt.toNat + rg e
        omega
      · show (r.2.2 (u * 32 + dst e)).toInt.toNat + del (dst e) = (r.2.2 (u * 32 + src e)).toInt.toNat + del (src e) + del (dst e)
        omega
end Br
/-! the law's own check of p - 1 -/
section Fe
variable {n m : Nat} {reg vdel : Nat→Int32} {src dst : Nat→Nat}
/-- f answers all the constraints -/
def CN0 (n m : Nat) (src dst rg : Nat→Nat) (rc : Nat→Nat→Bool) (W D : Nat→Nat→Nat) (c : Int) (f : Nat→Nat) : Prop :=
  (∀ v,v < n→f v≤512)∧(∀ u v,u < n→v < n→rc u v = true→c < (D u v : Int)→f u + 1≤f v + W u v)∧∀ e,e < m→f (src e)≤f (dst e) + rg e
theorem fe_no {p : Nat} {r : PR} {del rg f : Nat→Nat} (hn0 : 0 < n) (hn : n≤32) (hsd : ∀ e,e < m→src e < n∧dst e < n) (hv : ∀ v,v < n→(vdel v).toInt = del v∧del v≤15) (hr : ∀ e,e < m→(reg e).toInt = rg e∧rg e≤7) (hp : p≤480)
    (bd : ∀ u v,u < n→v < n→r.1 (u * 32 + v) = true→0≤(r.2.1 (u * 32 + v)).toInt∧(r.2.1 (u * 32 + v)).toInt≤231∧0≤(r.2.2 (u * 32 + v)).toInt∧(r.2.2 (u * 32 + v)).toInt≤200000)
    (h0 : r.1 (0 * 32 + 0) = true∧(r.2.1 (0 * 32 + 0)).toInt = 0) (h4 : p = 0 ∨ (feas n m reg vdel src dst r (nI (p - 1))).2 = false)
    (hf : CN0 n m src dst rg (fun u v => r.1 (u * 32 + v)) (fun u v => (r.2.1 (u * 32 + v)).toInt.toNat) (fun u v => (r.2.2 (u * 32 + v)).toInt.toNat + del v) ((p : Int) - 1) f) : False:=by
  rcases h4 with z | h4
  · have:=hf.2.1 0 0 hn0 hn0 h0.1 (by show ((p : Int) - 1) < (((r.2.2 (0 * 32 + 0)).toInt.toNat + del 0 : Nat) : Int); omega)
    have this : f 0 + 1≤f 0 + (r.2.1 (0 * 32 + 0)).toInt.toNat:=this
    omega
  · have p0 : 0 < p:=by
      rcases Nat.eq_zero_or_pos p with z | z
      · exfalso
        have:=hf.2.1 0 0 hn0 hn0 h0.1 (by show ((p : Int) - 1) < (((r.2.2 (0 * 32 + 0)).toInt.toNat + del 0 : Nat) : Int); omega)
        have this : f 0 + 1≤f 0 + (r.2.1 (0 * 32 + 0)).toInt.toNat:=this
        omega
      · exact z
    have ff:=bf_c (n:=n) (m:=m) (reg:=reg) (vdel:=vdel) (src:=src) (dst:=dst) (r:=r) (c:=nI (p - 1)) hn (fun e he => by have:=hr e he; omega) hsd (fun a b ha hb q => ⟨(bd a b ha hb q).1,(bd a b ha hb q).2.1⟩) (D:=fun v => (f v : Int) - 512) ⟨fun v hv' => by
        have:=hf.1 v hv'
        show (-1000000 : Int)≤(f v : Int) - 512∧(f v : Int) - 512≤0
        omega,fun u v b hk => by
        show (f u : Int) - 512≤(f v : Int) - 512 + b
        rcases hk with ⟨e,he,rfl,rfl,rfl⟩ | ⟨hu,hv',hq,hc,rfl⟩
        · have:=hf.2.2 e he
          have:=hr e he
          omega
        · have k:=bd u v hu hv' hq
          have v1:=hv v hv'
          have e3 : (r.2.2 (u * 32 + v) + vdel v).toInt = (r.2.2 (u * 32 + v)).toInt + (vdel v).toInt:=add_i (by omega) (by omega)
          rw [lt_i,e3,nI_int (by omega)] at hc
          have:=hf.2.1 u v hu hv' hq (by show ((p : Int) - 1) < (((r.2.2 (u * 32 + v)).toInt.toNat + del v : Nat) : Int); omega)
          have this : f u + 1≤f v + (r.2.1 (u * 32 + v)).toInt.toNat:=this
          omega⟩
    rw [h4] at ff
    cases ff
end Fe
def cel (vs : List Int32) (k : Nat) : Int32:=if k < vs.length then getA vs (nI k) else 0
def mdI (x : Int32) (m : Nat) : Int32:=if x % nI m < 0 then x % nI m + nI m else x % nI m
def mdN (x : Int32) (m : Nat) : Nat:=(mdI x m).toInt.toNat
theorem uu_bd (x : Int32) {m : Nat} (m0 : 0 < m) (m1 : m≤1000) : ∃ k,k < m∧mdI x m = nI k:=by
  have em : (nI m).toInt = m:=nI_int (by omega)
  have e : (x % nI m).toInt = x.toInt.tmod m:=by rw [Int32.toInt_mod,em]
  have h1:=Int.tmod_lt_of_pos x.toInt (show (0 : Int) < m by omega)
  have h2:=Int.tmod_lt_of_pos (-x.toInt) (show (0 : Int) < m by omega)
  rw [Int.neg_tmod] at h2
  unfold mdI
  by_cases h : x % nI m < 0
  · rw [if_pos h]
    rw [lt_i,i_0,e] at h
    have a:=add_i (a:=x % nI m) (b:=nI m) (by rw [e,em]; omega) (by rw [e,em]; omega)
    rw [e,em] at a
    refine ⟨(x.toInt.tmod m + m).toNat,by omega,Int32.toInt_inj.mp ?_⟩
    rw [a,nI_int (by omega)]
    omega
  · rw [if_neg h]
    rw [lt_i,i_0,e] at h
    refine ⟨(x.toInt.tmod m).toNat,by omega,Int32.toInt_inj.mp ?_⟩
    rw [e,nI_int (by omega)]
    omega
theorem md_e (x : Int32) {m : Nat} (m0 : 0 < m) (m1 : m≤1000) : mdN x m < m∧mdI x m = nI (mdN x m):=by
  obtain ⟨k,hk,e⟩:=uu_bd x m0 m1
  have : mdN x m = k:=by unfold mdN; rw [e,nI_int (by omega)]; rfl
  rw [this]
  exact ⟨hk,e⟩
def dlN (vs : List Int32) (i : Nat) : Nat:=mdN (cel vs (2 + 3 * i)) 16
def srN (vs : List Int32) (n j : Nat) : Nat:=mdN (cel vs (17 + 3 * j)) n
def dsN (vs : List Int32) (n j : Nat) : Nat:=mdN (cel vs (18 + 3 * j)) n
def rgN (vs : List Int32) (j : Nat) : Nat:=mdN (cel vs (19 + 3 * j)) 8
theorem dl_b (vs : List Int32) (i : Nat) : dlN vs i≤15:=Nat.le_of_lt_succ (md_e _ (by decide) (by decide)).1
theorem rg_b (vs : List Int32) (j : Nat) : rgN vs j≤7:=Nat.le_of_lt_succ (md_e _ (by decide) (by decide)).1
theorem nI_3m (v : Nat) : 3 * nI v = nI (3 * v):=(Int32.ofNat_mul 3 v).symm
theorem nI_16m (v : Nat) : nI v * 16 = nI (v * 16):=(Int32.ofNat_mul v 16).symm
theorem nI_128m (v : Nat) : 128 * nI v = nI (128 * v):=(Int32.ofNat_mul 128 v).symm
theorem nI_127 (v : Nat) : nI v + 127 = nI (v + 127):=nI_add v 127
theorem nI_div {a c : Nat} (ha : a < 2147483648) (hc : c < 2147483648) : nI a / nI c = nI (a / c):=by
  have hq : a / c≤a:=Nat.div_le_self a c
  apply Int32.toInt_inj.mp
  rw [Int32.toInt_div,nI_int ha,nI_int hc,nI_int (by omega),← Int.ofNat_tdiv]
  generalize a / c = q at *
  exact Int.bmod_eq_of_le (by omega) (by omega)
theorem nnF {a : Nat} (ha : a < 2147483648) : (nI a < 0) = False:=eq_false (nI_nn ha)
theorem n0T {a : Nat} (h : 0 < a) (ha : a < 2147483648) : (nI a = 0) = False:=eq_false (nI_ne (c:=0) ha (by decide) (by omega))
theorem eT {a c : Nat} (h : a = c) : (nI a = nI c) = True:=eq_true (congrArg nI h)
theorem eF {a c : Nat} (h : a ≠ c) (ha : a < 2147483648) (hc : c < 2147483648) : (nI a = nI c) = False:=eq_false (nI_ne ha hc h)
theorem CF_stp {l : List Int32} {f : Nat→Int32} {k : Nat} {v : Int32} (h : CF l f k) (e : v = f k) (hk : k < l.length) (hl : l.length≤4096) : CF (setA l (nI k) v) f (k + 1):=by
  intro i hi
  rw [cf_set hk hl (by omega)]
  split
  · rename_i q; rw [e,q]
  · exact h i (by omega)
theorem CN_stp {l : List Int32} {f : Nat→Nat} {k : Nat} {v : Int32} (h : CN l f k) (e : v = nI (f k)) (hk : k < l.length) (hl : l.length≤4096) : CN (setA l (nI k) v) f (k + 1):=by
  intro i hi
  rw [cf_set hk hl (by omega)]
  split
  · rename_i q; rw [e,q]
  · exact h i (by omega)
theorem PK_stp {b n v : Nat} {p : Int64} {f : Nat→Nat} (h : PK b p n f) (e : v = f n) (hn : n < 5) (hb : W12 b) (hv : v < 2 ^ b) : PK b (pf p (nI n) (nI b) (nI v)) (n + 1) f:=fun i hi => by
  rw [PK_push h hn hb hv i hi,ou_a]
  split
  · rename_i q; rw [e,q]
  · rfl
theorem PK_ext {b n : Nat} {p : Int64} {f g : Nat→Nat} (h : PK b p n f) (e : ∀ i,i < n→f i = g i) : PK b p n g:=fun i hi => by rw [h i hi,e i hi]
theorem cmp_e (J : Int64) : XT.cmpL J J = 0:=by simp [XT.cmpL]
theorem cmp_n {J K : Int64} (h : J ≠ K) : (XT.cmpL J K = 0) = False:=by
  apply eq_false
  unfold XT.cmpL
  split
  · decide
  · first | decide | (rw [if_neg h]; decide)
def okP (a c : Slot) : Prop:=(okS a∧okS c) ∨ ∃ J : Int64,a = .val (.long J)∧c = .second
theorem okP_u : okP .unset .unset:=Or.inl ⟨okS_u,okS_u⟩
theorem okP_l (J : Int64) : okP (.val (.long J)) .second:=Or.inr ⟨J,rfl,rfl⟩
section St
variable {st : List Value} {H : AHeap} {Q : Option Value→AHeap→Prop} {l0 l1 l2 l3 l4 l5 l6 l7 l8 l9 l10 l11 l12 l13 l14 l15 l16 l17 : Slot} {J1 : Int64} {v : Int32}
theorem own_Lperiod_59 (h : okP l9 l10) : M29 59 [l0,l1,l2,l3,l4,l5,l6,l7,l8,l9,l10,l11,l12,l13,l14] (.long J1::st) H Q = M29 61 [l0,l1,l2,l3,l4,l5,l6,l7,l8,.val (.long J1),.second,l11,l12,l13,l14] st H Q:=by
  rcases h with ⟨h,h'⟩ | ⟨J,rfl,rfl⟩
  · rcases h with rfl | ⟨z,rfl⟩ <;> rcases h' with rfl | ⟨y,rfl⟩ <;> exact w_x (show decode kb29 59 = .ok (.lstore 9,2) from by decide +kernel) rfl
  · exact w_x (show decode kb29 59 = .ok (.lstore 9,2) from by decide +kernel) rfl
theorem own_Lperiod_194 (h : okP l9 l10) : ∃ k,okS k∧M29 194 [l0,l1,l2,l3,l4,l5,l6,l7,l8,l9,l10,l11,l12,l13,l14] (.int v::st) H Q = M29 196 [l0,l1,l2,l3,l4,l5,l6,l7,l8,.val (.int v),k,l11,l12,l13,l14] st H Q:=by
  rcases h with ⟨h,h'⟩ | ⟨J,rfl,rfl⟩
  · refine ⟨_,h',?_⟩
    rcases h with rfl | ⟨z,rfl⟩ <;> exact w_x (show decode kb29 194 = .ok (.istore 9,2) from by decide +kernel) rfl
  · exact ⟨_,okS_u,w_x (show decode kb29 194 = .ok (.istore 9,2) from by decide +kernel) rfl⟩
theorem own_Lfeasible_61 (h : okP l9 l10) : M33 61 [l0,l1,l2,l3,l4,l5,l6,l7,l8,l9,l10,l11,l12,l13,l14,l15] (.long J1::st) H Q = M33 63 [l0,l1,l2,l3,l4,l5,l6,l7,l8,.val (.long J1),.second,l11,l12,l13,l14,l15] st H Q:=by
  rcases h with ⟨h,h'⟩ | ⟨J,rfl,rfl⟩
  · rcases h with rfl | ⟨z,rfl⟩ <;> rcases h' with rfl | ⟨y,rfl⟩ <;> exact w_x (show decode kb33 61 = .ok (.lstore 9,2) from by decide +kernel) rfl
  · exact w_x (show decode kb33 61 = .ok (.lstore 9,2) from by decide +kernel) rfl
theorem own_Lfeasible_200 (h : okP l9 l10) : ∃ k,okS k∧M33 200 [l0,l1,l2,l3,l4,l5,l6,l7,l8,l9,l10,l11,l12,l13,l14,l15] (.int v::st) H Q = M33 202 [l0,l1,l2,l3,l4,l5,l6,l7,l8,.val (.int v),k,l11,l12,l13,l14,l15] st H Q:=by
  rcases h with ⟨h,h'⟩ | ⟨J,rfl,rfl⟩
  · refine ⟨_,h',?_⟩
    rcases h with rfl | ⟨z,rfl⟩ <;> exact w_x (show decode kb33 200 = .ok (.istore 9,2) from by decide +kernel) rfl
  · exact ⟨_,okS_u,w_x (show decode kb33 200 = .ok (.istore 9,2) from by decide +kernel) rfl⟩
theorem own_Llaw_362 (h : okP l11 l12) : M34 362 [l0,l1,l2,l3,l4,l5,l6,l7,l8,l9,l10,l11,l12,l13,l14,l15,l16,l17] (.long J1::st) H Q = M34 364 [l0,l1,l2,l3,l4,l5,l6,l7,l8,l9,l10,.val (.long J1),.second,l13,l14,l15,l16,l17] st H Q:=by
  rcases h with ⟨h,h'⟩ | ⟨J,rfl,rfl⟩
  · rcases h with rfl | ⟨z,rfl⟩ <;> rcases h' with rfl | ⟨y,rfl⟩ <;> exact w_x (show decode kb34 362 = .ok (.lstore 11,2) from by decide +kernel) rfl
  · exact w_x (show decode kb34 362 = .ok (.lstore 11,2) from by decide +kernel) rfl
end St
section Sta
variable {vs : List Int32} {H : AHeap} {Q : Option Value→AHeap→Prop} {s : Nat→Int32} {A : Nat→List Int32} {n m : Nat}
set_option maxRecDepth 1000000 in
set_option maxHeartbeats 20000000 in
theorem modW {x : Int32} {m : Nat} (m0 : 0 < m) (m1 : m≤1000) (hq : Q (some (.int (nI (mdN x m)))) H) : M24 0 [.val (.int (x)),.val (.int (nI m)),.unset] [] H Q:=by
  have nz : (nI m = 0) = False:=n0T m0 (by omega)
  rw [← (md_e x m0 m1).2] at hq
  unfold mdI at hq
  by_cases h : x % nI m < 0
  · rw [if_pos h] at hq
    simp [h,nz,own_k24_0,nb0,nb1,ou_a,Option.toList_some,Option.toList_none,List.nil_append,List.cons_append]
    exact hq
  · rw [if_neg h] at hq
    simp [h,nz,own_k24_0,nb0,nb1,ou_a,Option.toList_some,Option.toList_none,List.nil_append,List.cons_append]
    exact hq
theorem cellR {R : AHeap} {j : Nat} (hlen : vs.length≤260) (hj : j≤1000) (hq : Q (some (.int (cel vs j))) ((.array .int,vs.map Value.int)::R)) : M23 0 [.val (.ref 0),.val (.int (nI j))] [] ((.array .int,vs.map Value.int)::R) Q:=by
  unfold cel at hq
  by_cases h : j < vs.length
  · have h1 : (nI j < vs.length.toInt32) = True:=lT (c:=vs.length) h (by omega)
    have x0 : inB (nI j) vs:=nI_in h (by omega)
    rw [if_pos h] at hq
    simp [h1,x0,own_k23_0,nb0,nb1,ou_a,Option.toList_some,Option.toList_none,List.nil_append,List.cons_append]
    exact hq
  · have h1 : (nI j < vs.length.toInt32) = False:=lF (c:=vs.length) (by omega) (by omega)
    rw [if_neg h] at hq
    simp [h1,own_k23_0,nb0,nb1,ou_a,Option.toList_some,Option.toList_none,List.nil_append,List.cons_append]
    exact hq
theorem cellW {j : Nat} (hlen : vs.length≤260) (hj : j≤1000) (hq : Q (some (.int (cel vs j))) (put 1 [((FieldType.array .int,vs.map Value.int) : FieldType × List Value)] s A [])) : M23 0 [.val (.ref 0),.val (.int (nI j))] [] (put 1 [((FieldType.array .int,vs.map Value.int) : FieldType × List Value)] s A []) Q:=by
  unfold cel at hq
  by_cases h : j < vs.length
  · have h1 : (nI j < vs.length.toInt32) = True:=lT (c:=vs.length) h (by omega)
    have x0 : inB (nI j) vs:=nI_in h (by omega)
    rw [if_pos h] at hq
    simp [h1,x0,own_k23_0,nb0,nb1,ou_a,Option.toList_some,Option.toList_none,List.nil_append,List.cons_append]
    exact hq
  · have h1 : (nI j < vs.length.toInt32) = False:=lF (c:=vs.length) (by omega) (by omega)
    rw [if_neg h] at hq
    simp [h1,own_k23_0,nb0,nb1,ou_a,Option.toList_some,Option.toList_none,List.nil_append,List.cons_append]
    exact hq
theorem dlW {i : Nat} (hlen : vs.length≤260) (hi : i≤20) (hq : Q (some (.int (nI (dlN vs i)))) (put 1 [((FieldType.array .int,vs.map Value.int) : FieldType × List Value)] s A [])) : M25 0 [.val (.ref 0),.val (.int (nI i))] [] (put 1 [((FieldType.array .int,vs.map Value.int) : FieldType × List Value)] s A []) Q:=by
  have e : (2 : Int32) + nI (3 * i) = nI (2 + 3 * i):=nI_add 2 (3 * i)
  simp [nI_3m,e,own_k25_0,nb0,nb1,ou_a,Option.toList_some,Option.toList_none,List.nil_append,List.cons_append]
  refine cellW hlen (by omega) ?_
  simp [own_k25_0,nb0,nb1,ou_a,Option.toList_some,Option.toList_none,List.nil_append,List.cons_append]
  refine modW (m:=16) (by decide) (by decide) ?_
  simp [own_k25_0,nb0,nb1,ou_a,Option.toList_some,Option.toList_none,List.nil_append,List.cons_append]
  exact hq
theorem rgW {i : Nat} (hlen : vs.length≤260) (hi : i≤20) (hq : Q (some (.int (nI (rgN vs i)))) (put 1 [((FieldType.array .int,vs.map Value.int) : FieldType × List Value)] s A [])) : M28 0 [.val (.ref 0),.val (.int (nI i))] [] (put 1 [((FieldType.array .int,vs.map Value.int) : FieldType × List Value)] s A []) Q:=by
  have e : (19 : Int32) + nI (3 * i) = nI (19 + 3 * i):=nI_add 19 (3 * i)
  simp [nI_3m,e,own_k28_0,nb0,nb1,ou_a,Option.toList_some,Option.toList_none,List.nil_append,List.cons_append]
  refine cellW hlen (by omega) ?_
  simp [own_k28_0,nb0,nb1,ou_a,Option.toList_some,Option.toList_none,List.nil_append,List.cons_append]
  refine modW (m:=8) (by decide) (by decide) ?_
  simp [own_k28_0,nb0,nb1,ou_a,Option.toList_some,Option.toList_none,List.nil_append,List.cons_append]
  exact hq
theorem srW {i : Nat} (hlen : vs.length≤260) (hi : i≤20) (n0 : 0 < n) (n5 : n≤5) (hq : Q (some (.int (nI (srN vs n i)))) (put 1 [((FieldType.array .int,vs.map Value.int) : FieldType × List Value)] s A [])) : M26 0 [.val (.ref 0),.val (.int (nI n)),.val (.int (nI i))] [] (put 1 [((FieldType.array .int,vs.map Value.int) : FieldType × List Value)] s A []) Q:=by
  have e : (17 : Int32) + nI (3 * i) = nI (17 + 3 * i):=nI_add 17 (3 * i)
  simp [nI_3m,e,own_k26_0,nb0,nb1,ou_a,Option.toList_some,Option.toList_none,List.nil_append,List.cons_append]
  refine cellW hlen (by omega) ?_
  simp [own_k26_0,nb0,nb1,ou_a,Option.toList_some,Option.toList_none,List.nil_append,List.cons_append]
  refine modW (m:=n) (by omega) (by omega) ?_
  simp [own_k26_0,nb0,nb1,ou_a,Option.toList_some,Option.toList_none,List.nil_append,List.cons_append]
  exact hq
theorem dsW {i : Nat} (hlen : vs.length≤260) (hi : i≤20) (n0 : 0 < n) (n5 : n≤5) (hq : Q (some (.int (nI (dsN vs n i)))) (put 1 [((FieldType.array .int,vs.map Value.int) : FieldType × List Value)] s A [])) : M27 0 [.val (.ref 0),.val (.int (nI n)),.val (.int (nI i))] [] (put 1 [((FieldType.array .int,vs.map Value.int) : FieldType × List Value)] s A []) Q:=by
  have e : (18 : Int32) + nI (3 * i) = nI (18 + 3 * i):=nI_add 18 (3 * i)
  simp [nI_3m,e,own_k27_0,nb0,nb1,ou_a,Option.toList_some,Option.toList_none,List.nil_append,List.cons_append]
  refine cellW hlen (by omega) ?_
  simp [own_k27_0,nb0,nb1,ou_a,Option.toList_some,Option.toList_none,List.nil_append,List.cons_append]
  refine modW (m:=n) (by omega) (by omega) ?_
  simp [own_k27_0,nb0,nb1,ou_a,Option.toList_some,Option.toList_none,List.nil_append,List.cons_append]
  exact hq
theorem getW {p : Int64} {i w : Int32} : M31 0 [.val (.long p),.second,.val (.int (i)),.val (.int (w))] [] H Q = Q (some (.int (gf p i w))) H:=by
  simp only [own_k31_0,nb0,nb1,ou_a,Option.toList_some,Option.toList_none,List.nil_append,List.cons_append]
  rfl
theorem putW {p : Int64} {i w v : Int32} : M30 0 [.val (.long p),.second,.val (.int (i)),.val (.int (w)),.val (.int (v)),.unset,.unset] [] H Q = Q (some (.long (pf p i w v))) H:=by
  simp only [own_k30_0,own_k30_1,nb0,nb1,ou_a,Option.toList_some,Option.toList_none,List.nil_append,List.cons_append]
  rfl
end Sta
section Lp
variable {vs : List Int32} {Q : Option Value→AHeap→Prop} {s : Nat→Int32} {A : Nat→List Int32} {n m u : Nat} {w : Int64} {l6 l7 l8 l9 l10 l11 l12 l13 l14 l15 : Slot}
theorem sdN (vs : List Int32) (n0 : 0 < n) (n5 : n≤5) (e : Nat) : srN vs n e < n∧dsN vs n e < n:=⟨(md_e _ n0 (by omega)).1,(md_e _ n0 (by omega)).1⟩
set_option maxRecDepth 1000000 in
set_option maxHeartbeats 20000000 in
theorem peI0 (hlen : vs.length≤260) (n0 : 0 < n) (n5 : n≤5) (m10 : m≤10) (hq : ∀ p',PK 12 p' n (ce1 (dlN vs))→M29 40 [.val (.ref 0),.val (.int (nI n)),.val (.int (nI m)),.val (.long w),.second,.val (.long p'),.second,.val (.int (nI n)),.unset,.unset,.unset,.unset,.unset,.unset,.unset] [] (put 1 [((FieldType.array .int,vs.map Value.int) : FieldType × List Value)] s A []) Q) : ∀ (r v : Nat) (p : Int64),v + r = n→PK 12 p v (ce1 (dlN vs))→M29 6 [.val (.ref 0),.val (.int (nI n)),.val (.int (nI m)),.val (.long w),.second,.val (.long p),.second,.val (.int (nI v)),.unset,.unset,.unset,.unset,.unset,.unset,.unset] [] (put 1 [((FieldType.array .int,vs.map Value.int) : FieldType × List Value)] s A []) Q:=by
  intro r
  induction r with
  | zero =>
    intro v p e h
    obtain rfl : v = n:=by omega
    have c1 : (nI v < nI v) = False:=lF (by omega) (by omega)
    rw [m29_6]
    simp [c1,own_k29_0,own_k29_1,m29_41i,m29_43,m29_44u,own_k29_3,own_k29_4,own_k29_5,own_k29_6,own_k29_7,own_k29_8,own_k29_9,own_k29_10,nb0,nb1,ou_a,Option.toList_some,Option.toList_none,List.nil_append,List.cons_append]
    exact hq p h
  | succ r ih =>
    intro v p e h
    have c1 : (nI v < nI n) = True:=lT (by omega) (by omega)
    rw [m29_6]
    simp [c1,own_k29_0,own_k29_1,m29_41i,m29_43,m29_44u,own_k29_3,own_k29_4,own_k29_5,own_k29_6,own_k29_7,own_k29_8,own_k29_9,own_k29_10,nb0,nb1,ou_a,Option.toList_some,Option.toList_none,List.nil_append,List.cons_append]
    refine dlW hlen (by omega) ?_
    have d:=dl_b vs v
    simp [nI_16m,nI_1,putW,own_k29_0,own_k29_1,m29_41i,m29_43,m29_44u,own_k29_3,own_k29_4,own_k29_5,own_k29_6,own_k29_7,own_k29_8,own_k29_9,own_k29_10,nb0,nb1,ou_a,Option.toList_some,Option.toList_none,List.nil_append,List.cons_append]
    exact ih (v + 1) _ (by omega) (PK_stp (b:=12) h rfl (by omega) (Or.inr rfl) (by omega))
theorem lpE (hlen : vs.length≤260) (n0 : 0 < n) (n5 : n≤5) (m10 : m≤10) {k : Nat} {p : Int64} {f : Nat→Nat} (hk : k≤6) (hf : PK 12 p n f) (hU : JU n k (dlN vs) f) (hq : ∀ q' h' l12 l13 l14,PK 12 q' n h'→JR n m (srN vs n) (dsN vs n) (dlN vs) (ZB w) f h'→(q' = p ∨ ∃ v,v < n∧f v < h' v)→okS l12→okS l13→okS l14→M29 158 [.val (.ref 0),.val (.int (nI n)),.val (.int (nI m)),.val (.long w),.second,.val (.long p),.second,l7,l8,.val (.long q'),.second,.val (.int (nI m)),l12,l13,l14] [] (put 1 [((FieldType.array .int,vs.map Value.int) : FieldType × List Value)] s A []) Q) : ∀ (r j : Nat) (q : Int64) (h : Nat→Nat) (l12 l13 l14 : Slot),j + r = m→PK 12 q n h→JR n j (srN vs n) (dsN vs n) (dlN vs) (ZB w) f h→(q = p ∨ ∃ v,v < n∧f v < h v)→okS l12→okS l13→okS l14→M29 64 [.val (.ref 0),.val (.int (nI n)),.val (.int (nI m)),.val (.long w),.second,.val (.long p),.second,l7,l8,.val (.long q),.second,.val (.int (nI j)),l12,l13,l14] [] (put 1 [((FieldType.array .int,vs.map Value.int) : FieldType × List Value)] s A []) Q:=by
  intro r
  induction r with
  | zero =>
    intro j q h l12 l13 l14 e hp hJ hc o12 o13 o14
    obtain rfl : j = m:=by omega
    have c1 : (nI j < nI j) = False:=lF (by omega) (by omega)
    rw [m29_64]
    simp [c1,own_k29_0,own_k29_1,own_k29_2,own_k29_3,own_k29_4,own_k29_5,own_k29_6,m29_143,m29_145,m29_147,m29_150,m29_152,m29_155,m29_160,m29_162,m29_163,m29_166,m29_167,m29_170,m29_171i,m29_173,m29_175,own_k29_8,own_k29_9,own_k29_10,nb0,nb1,ou_a,Option.toList_some,Option.toList_none,List.nil_append,List.cons_append]
    exact hq q h _ _ _ hp hJ hc o12 o13 o14
  | succ r ih =>
    intro j q h l12 l13 l14 e hp hJ hc o12 o13 o14
    have c1 : (nI j < nI m) = True:=lT (by omega) (by omega)
    rw [m29_64]
    by_cases z : ZB w j = true
    · have z1 : XT.cmpL (XT.ushrL w (nI j) &&& 1) 0 = 1:=by rw [zb_g (by omega),if_pos z]; decide
      have sd:=sdN vs n0 n5 j
      have d:=dl_b vs (dsN vs n j)
      have ga : gf p (nI (srN vs n j)) 12 = nI (f (srN vs n j)):=hf _ sd.1
      have gq : gf q (nI (dsN vs n j)) 12 = nI (h (dsN vs n j)):=hp _ sd.2
      have ub:=hU _ sd.1
      have hb : h (dsN vs n j)≤241 * (k + 2):=by
        have u2:=hU _ sd.2
        rcases hJ.2 _ sd.2 with y | ⟨e',he',_,_,y,_⟩
        · omega
        · have u1:=hU _ (sdN vs n0 n5 e').1
          unfold ce1 at y
          omega
      simp [c1,z1,own_k29_0,own_k29_1,own_k29_2,own_k29_3,own_k29_4,own_k29_5,own_k29_6,m29_143,m29_145,m29_147,m29_150,m29_152,m29_155,m29_160,m29_162,m29_163,m29_166,m29_167,m29_170,m29_171i,m29_173,m29_175,own_k29_8,own_k29_9,own_k29_10,nb0,nb1,ou_a,Option.toList_some,Option.toList_none,List.nil_append,List.cons_append]
      refine srW hlen (by omega) n0 n5 ?_
      simp [o12,own_k29_0,own_k29_1,own_k29_2,own_k29_3,own_k29_4,own_k29_5,own_k29_6,m29_143,m29_145,m29_147,m29_150,m29_152,m29_155,m29_160,m29_162,m29_163,m29_166,m29_167,m29_170,m29_171i,m29_173,m29_175,own_k29_8,own_k29_9,own_k29_10,nb0,nb1,ou_a,Option.toList_some,Option.toList_none,List.nil_append,List.cons_append]
      refine dsW hlen (by omega) n0 n5 ?_
      simp [o13,getW,ga,own_k29_0,own_k29_1,own_k29_2,own_k29_3,own_k29_4,own_k29_5,own_k29_6,m29_143,m29_145,m29_147,m29_150,m29_152,m29_155,m29_160,m29_162,m29_163,m29_166,m29_167,m29_170,m29_171i,m29_173,m29_175,own_k29_8,own_k29_9,own_k29_10,nb0,nb1,ou_a,Option.toList_some,Option.toList_none,List.nil_append,List.cons_append]
      refine dlW hlen (by omega) ?_
      by_cases y : h (dsN vs n j) < f (srN vs n j) + dlN vs (dsN vs n j) * 16 + 1
      · have y1 : (nI (h (dsN vs n j)) < nI (f (srN vs n j) + dlN vs (dsN vs n j) * 16 + 1)) = True:=lT y (by omega)
        simp [nI_16m,nI_add,nI_1,getW,gq,y1,putW,o14,own_k29_0,own_k29_1,own_k29_2,own_k29_3,own_k29_4,own_k29_5,own_k29_6,m29_143,m29_145,m29_147,m29_150,m29_152,m29_155,m29_160,m29_162,m29_163,m29_166,m29_167,m29_170,m29_171i,m29_173,m29_175,own_k29_8,own_k29_9,own_k29_10,nb0,nb1,ou_a,Option.toList_some,Option.toList_none,List.nil_append,List.cons_append]
        exact ih (j + 1) _ _ _ _ _ (by omega) (PK_set (b:=12) hp n5 (by omega) (Or.inr rfl) (by omega)) (JR_s hJ sd.2 z y) (Or.inr ⟨_,sd.2,by rw [ou_a,if_pos rfl]; have:=JR_ge hJ sd.2; omega⟩) (okS_n _) (okS_n _) (okS_n _)
      · have y1 : (nI (h (dsN vs n j)) < nI (f (srN vs n j) + dlN vs (dsN vs n j) * 16 + 1)) = False:=lF (by omega) (by omega)
        simp [nI_16m,nI_add,nI_1,getW,gq,y1,o14,own_k29_0,own_k29_1,own_k29_2,own_k29_3,own_k29_4,own_k29_5,own_k29_6,m29_143,m29_145,m29_147,m29_150,m29_152,m29_155,m29_160,m29_162,m29_163,m29_166,m29_167,m29_170,m29_171i,m29_173,m29_175,own_k29_8,own_k29_9,own_k29_10,nb0,nb1,ou_a,Option.toList_some,Option.toList_none,List.nil_append,List.cons_append]
        exact ih (j + 1) q h _ _ _ (by omega) hp (JR_n hJ (Or.inr (by unfold ce1; omega))) hc (okS_n _) (okS_n _) (okS_n _)
    · have z1 : XT.cmpL (XT.ushrL w (nI j) &&& 1) 0 = 0:=by rw [zb_g (by omega),if_neg z]; decide
      simp [c1,z1,nI_1,own_k29_0,own_k29_1,own_k29_2,own_k29_3,own_k29_4,own_k29_5,own_k29_6,m29_143,m29_145,m29_147,m29_150,m29_152,m29_155,m29_160,m29_162,m29_163,m29_166,m29_167,m29_170,m29_171i,m29_173,m29_175,own_k29_8,own_k29_9,own_k29_10,nb0,nb1,ou_a,Option.toList_some,Option.toList_none,List.nil_append,List.cons_append]
      exact ih (j + 1) q h _ _ _ (by omega) hp (JR_n hJ (Or.inl (by simpa using z))) hc o12 o13 o14
theorem peB {p : Int64} {f : Nat→Nat} (n5 : n≤5) (hf : PK 12 p n f) (hb : ∀ v,v < n→f v≤4095) (hq : Q (some (.int (nI (mx (fun v => f v / 16) n)))) (put 1 [((FieldType.array .int,vs.map Value.int) : FieldType × List Value)] s A [])) : ∀ (r v : Nat) (l10 : Slot),v + r = n→okS l10→M29 196 [.val (.ref 0),.val (.int (nI n)),.val (.int (nI m)),.val (.long w),.second,.val (.long p),.second,l7,.val (.int (nI (mx (fun v => f v / 16) v))),.val (.int (nI v)),l10,l11,l12,l13,l14] [] (put 1 [((FieldType.array .int,vs.map Value.int) : FieldType × List Value)] s A []) Q:=by
  intro r
  induction r with
  | zero =>
    intro v l10 e o10
    obtain rfl : v = n:=by omega
    have c1 : (nI v < nI v) = False:=lF (by omega) (by omega)
    rw [m29_196]
    simp [c1,own_k29_0,own_k29_1,own_k29_2,own_k29_3,own_k29_4,own_k29_5,own_k29_6,own_k29_7,own_k29_8,own_k29_9,own_k29_10,nb0,nb1,ou_a,Option.toList_some,Option.toList_none,List.nil_append,List.cons_append]
    exact hq
  | succ r ih =>
    intro v l10 e o10
    have c1 : (nI v < nI n) = True:=lT (by omega) (by omega)
    have ga : gf p (nI v) 12 = nI (f v):=hf _ (by omega)
    have b:=hb v (by omega)
    have e1 : nI (f v) / 16 = nI (f v / 16):=nI_div (c:=16) (by omega) (by decide)
    have mb : mx (fun v => f v / 16) v≤4095:=mx_le v (fun i hi => by have:=hb i (by omega); show f i / 16≤4095; omega)
    have go:=ih (v + 1) (.val (.int (nI (f v / 16)))) (by omega) (okS_n _)
    rw [mx] at go
    rw [m29_196]
    by_cases y : mx (fun v => f v / 16) v < f v / 16
    · have y1 : (nI (mx (fun v => f v / 16) v) < nI (f v / 16)) = True:=lT y (by omega)
      rw [if_pos y] at go
      simp [c1,getW,ga,e1,y1,o10,nI_1,own_k29_0,own_k29_1,own_k29_2,own_k29_3,own_k29_4,own_k29_5,own_k29_6,own_k29_7,own_k29_8,own_k29_9,own_k29_10,nb0,nb1,ou_a,Option.toList_some,Option.toList_none,List.nil_append,List.cons_append]
      exact go
    · have y1 : (nI (mx (fun v => f v / 16) v) < nI (f v / 16)) = False:=lF (by omega) (by omega)
      rw [if_neg y] at go
      simp [c1,getW,ga,e1,y1,o10,nI_1,own_k29_0,own_k29_1,own_k29_2,own_k29_3,own_k29_4,own_k29_5,own_k29_6,own_k29_7,own_k29_8,own_k29_9,own_k29_10,nb0,nb1,ou_a,Option.toList_some,Option.toList_none,List.nil_append,List.cons_append]
      exact go
theorem peX {p q : Int64} {f : Nat→Nat} {k : Nat} (hk : k≤1000) (n5 : n≤5) (hf : PK 12 p n f) (hb : ∀ v,v < n→f v≤4095) (hq : Q (some (.int (nI (mx (fun v => f v / 16) n)))) (put 1 [((FieldType.array .int,vs.map Value.int) : FieldType × List Value)] s A [])) : M29 46 [.val (.ref 0),.val (.int (nI n)),.val (.int (nI m)),.val (.long w),.second,.val (.long p),.second,.val (.int 0),.val (.int (nI k)),.val (.long q),.second,l11,l12,l13,l14] [] (put 1 [((FieldType.array .int,vs.map Value.int) : FieldType × List Value)] s A []) Q:=by
  obtain ⟨k10,ok,e⟩:=own_Lperiod_194 (H:=(put 1 [((FieldType.array .int,vs.map Value.int) : FieldType × List Value)] s A [])) (Q:=Q) (st:=[]) (v:=0) (l0:=.val (.ref 0)) (l1:=.val (.int (nI n))) (l2:=.val (.int (nI m))) (l3:=.val (.long w)) (l4:=.second) (l5:=.val (.long p)) (l6:=.second) (l7:=.val (.int 0)) (l8:=.val (.int 0)) (l11:=l11) (l12:=l12) (l13:=l13) (l14:=l14) (okP_l q)
  rw [m29_46]
  by_cases z : k < n
  · have c1 : (nI k < nI n) = True:=lT z (by omega)
    simp [c1,own_k29_0,own_k29_1,own_k29_2,own_k29_3,own_k29_4,own_k29_5,own_k29_6,own_k29_7,m29_177,m29_180,m29_183,m29_185,m29_188,m29_189,m29_190,m29_191i,m29_193,m29_194g,own_k29_9,own_k29_10,nb0,nb1,ou_a,Option.toList_some,Option.toList_none,List.nil_append,List.cons_append]
    rw [e]
    exact peB n5 hf hb hq n 0 _ (by omega) ok
  · have c1 : (nI k < nI n) = False:=lF (by omega) (by omega)
    simp [c1,own_k29_0,own_k29_1,own_k29_2,own_k29_3,own_k29_4,own_k29_5,own_k29_6,own_k29_7,m29_177,m29_180,m29_183,m29_185,m29_188,m29_189,m29_190,m29_191i,m29_193,m29_194g,own_k29_9,own_k29_10,nb0,nb1,ou_a,Option.toList_some,Option.toList_none,List.nil_append,List.cons_append]
    rw [e]
    exact peB n5 hf hb hq n 0 _ (by omega) ok
theorem peR (hlen : vs.length≤260) (n0 : 0 < n) (n5 : n≤5) (m10 : m≤10) (h1 : (∀ arr best g,¬ LF n m (srN vs n) (dsN vs n) (dlN vs) (ZB w) arr best g)→Q (some (.int (-1))) (put 1 [((FieldType.array .int,vs.map Value.int) : FieldType × List Value)] s A [])) (h2 : ∀ k f,k≤n→(∀ v,v < n→ce1 (dlN vs) v≤f v∧f v≤4095)→(∀ arr best g,LF n m (srN vs n) (dsN vs n) (dlN vs) (ZB w) arr best g→JL n m k (srN vs n) (dsN vs n) (dlN vs) (ZB w) arr g f)→(∀ e,e < m→ZB w e = true→f (srN vs n e) + ce1 (dlN vs) (dsN vs n e)≤f (dsN vs n e))→Q (some (.int (nI (mx (fun v => f v / 16) n)))) (put 1 [((FieldType.array .int,vs.map Value.int) : FieldType × List Value)] s A [])) :
    ∀ (r k : Nat) (p : Int64) (f : Nat→Nat) (l9 l10 l11 l12 l13 l14 : Slot),k + r = n→PK 12 p n f→JU n k (dlN vs) f→(∀ arr best g,LF n m (srN vs n) (dsN vs n) (dlN vs) (ZB w) arr best g→k < n∧JL n m k (srN vs n) (dsN vs n) (dlN vs) (ZB w) arr g f)→okP l9 l10→okS l11→okS l12→okS l13→okS l14→M29 46 [.val (.ref 0),.val (.int (nI n)),.val (.int (nI m)),.val (.long w),.second,.val (.long p),.second,.val (.int 1),.val (.int (nI k)),l9,l10,l11,l12,l13,l14] [] (put 1 [((FieldType.array .int,vs.map Value.int) : FieldType × List Value)] s A []) Q:=by
  intro r
  have sdm : ∀ e,e < m→srN vs n e < n∧dsN vs n e < n:=fun e _ => sdN vs n0 n5 e
  induction r with
  | zero =>
    intro k p f l9 l10 l11 l12 l13 l14 e hf hU hJ o9 o11 o12 o13 o14
    obtain rfl : k = n:=by omega
    have c1 : (nI k < nI k) = False:=lF (by omega) (by omega)
    rw [m29_46]
    simp [c1,own_k29_0,own_k29_1,own_k29_2,own_k29_3,own_k29_4,own_k29_5,own_k29_6,own_k29_7,own_k29_8,own_k29_9,own_k29_10,nb0,nb1,ou_a,Option.toList_some,Option.toList_none,List.nil_append,List.cons_append]
    exact h1 (fun arr best g L => absurd (hJ arr best g L).1 (by omega))
  | succ r ih =>
    intro k p f l9 l10 l11 l12 l13 l14 e hf hU hJ o9 o11 o12 o13 o14
    have c1 : (nI k < nI n) = True:=lT (by omega) (by omega)
    have st:=own_Lperiod_59 (H:=(put 1 [((FieldType.array .int,vs.map Value.int) : FieldType × List Value)] s A [])) (Q:=Q) (st:=[]) (J1:=p) (l0:=.val (.ref 0)) (l1:=.val (.int (nI n))) (l2:=.val (.int (nI m))) (l3:=.val (.long w)) (l4:=.second) (l5:=.val (.long p)) (l6:=.second) (l7:=.val (.int 1)) (l8:=.val (.int (nI k))) (l11:=l11) (l12:=l12) (l13:=l13) (l14:=l14) o9
    rw [m29_46]
    simp [c1,own_k29_0,own_k29_1,own_k29_2,m29_48,m29_49,m29_52,m29_54,m29_57,m29_61,m29_62u,m29_62i,m29_62g,own_k29_4,own_k29_5,own_k29_6,own_k29_7,own_k29_8,own_k29_9,own_k29_10,nb0,nb1,ou_a,Option.toList_some,Option.toList_none,List.nil_append,List.cons_append]
    rw [st]
    simp [o11,own_k29_0,own_k29_1,own_k29_2,own_k29_3,own_k29_4,own_k29_5,own_k29_6,own_k29_7,own_k29_8,own_k29_9,own_k29_10,nb0,nb1,ou_a,Option.toList_some,Option.toList_none,List.nil_append,List.cons_append]
    refine lpE hlen n0 n5 m10 (by omega) hf hU (fun q' h' l12 l13 l14 hq' hR hc p12 p13 p14 => ?_) m 0 p f _ _ _ (by omega) hf JR_0 (Or.inl rfl) o12 o13 o14
    by_cases y : q' = p
    · subst y
      have same : ∀ v,v < n→h' v = f v:=fun v hv => by
        have a:=hq' v hv
        rw [hf v hv] at a
        have u1:=hU v hv
        have : h' v≤241 * (k + 2):=(JU_r hU sdm (fun v _ => dl_b vs v) hR v hv).2
        exact ((nI_inj (by omega) (by omega)).mp a).symm
      simp [cmp_e,nI_1,own_k29_0,own_k29_1,own_k29_2,own_k29_3,own_k29_4,own_k29_5,own_k29_6,own_k29_7,own_k29_8,own_k29_9,own_k29_10,nb0,nb1,ou_a,Option.toList_some,Option.toList_none,List.nil_append,List.cons_append]
      refine peX (by omega) n5 hf (fun v hv => by have:=hU v hv; omega) (h2 k f (by omega) (fun v hv => ⟨(hU v hv).1,by have:=hU v hv; omega⟩) (fun arr best g L => (hJ arr best g L).2) (fun e he hz => ?_))
      have:=hR.1 e he hz
      rw [same _ (sdm e he).2] at this
      exact this
    · obtain ⟨v,hv,hc⟩:=hc.resolve_left y
      have y1:=cmp_n y
      simp [y1,nI_1,own_k29_0,own_k29_1,own_k29_2,own_k29_3,own_k29_4,own_k29_5,own_k29_6,own_k29_7,own_k29_8,own_k29_9,own_k29_10,nb0,nb1,ou_a,Option.toList_some,Option.toList_none,List.nil_append,List.cons_append]
      exact ih (k + 1) q' h' _ _ _ _ _ _ (by omega) hq' (JU_r hU sdm (fun v _ => dl_b vs v) hR) (fun arr best g L => ⟨JL_c L sdm (hJ arr best g L).2 hR hv hc,JL_r sdm L (hJ arr best g L).2 hR⟩) (okP_l _) (okS_n _) p12 p13 p14
theorem LpW (hlen : vs.length≤260) (n0 : 0 < n) (n5 : n≤5) (m10 : m≤10) (h1 : (∀ arr best g,¬ LF n m (srN vs n) (dsN vs n) (dlN vs) (ZB w) arr best g)→Q (some (.int (-1))) (put 1 [((FieldType.array .int,vs.map Value.int) : FieldType × List Value)] s A [])) (h2 : ∀ k f,k≤n→(∀ v,v < n→ce1 (dlN vs) v≤f v∧f v≤4095)→(∀ arr best g,LF n m (srN vs n) (dsN vs n) (dlN vs) (ZB w) arr best g→JL n m k (srN vs n) (dsN vs n) (dlN vs) (ZB w) arr g f)→(∀ e,e < m→ZB w e = true→f (srN vs n e) + ce1 (dlN vs) (dsN vs n e)≤f (dsN vs n e))→Q (some (.int (nI (mx (fun v => f v / 16) n)))) (put 1 [((FieldType.array .int,vs.map Value.int) : FieldType × List Value)] s A [])) :
    M29 0 [.val (.ref 0),.val (.int (nI n)),.val (.int (nI m)),.val (.long w),.second,.unset,.unset,.unset,.unset,.unset,.unset,.unset,.unset,.unset,.unset] [] (put 1 [((FieldType.array .int,vs.map Value.int) : FieldType × List Value)] s A []) Q:=by
  simp [own_k29_0,own_k29_1,own_k29_2,own_k29_3,own_k29_4,own_k29_5,own_k29_6,own_k29_7,own_k29_8,own_k29_9,own_k29_10,nb0,nb1,ou_a,Option.toList_some,Option.toList_none,List.nil_append,List.cons_append]
  refine peI0 hlen n0 n5 m10 (fun p' hp => ?_) n 0 0 (by omega) (fun i hi => absurd hi (by omega))
  simp [own_k29_0,own_k29_1,own_k29_2,own_k29_3,own_k29_4,own_k29_5,own_k29_6,own_k29_7,own_k29_8,own_k29_9,own_k29_10,nb0,nb1,ou_a,Option.toList_some,Option.toList_none,List.nil_append,List.cons_append]
  exact peR hlen n0 n5 m10 h1 h2 n 0 p' _ _ _ _ _ _ _ (by omega) hp (fun v hv => ⟨Nat.le_refl _,by have:=dl_b vs v; unfold ce1; omega⟩) (fun arr best g L => ⟨n0,JL_0 L (fun e _ => sdN vs n0 n5 e)⟩) okP_u okS_u okS_u okS_u okS_u
end Lp
section Ls
variable {vs : List Int32} {Q : Option Value→AHeap→Prop} {s : Nat→Int32} {A : Nat→List Int32} {n m u : Nat} {g W D : Nat→Nat} {rc : Nat→Bool} {l6 l7 l8 l9 l10 l11 : Slot}
set_option maxRecDepth 1000000 in
set_option maxHeartbeats 20000000 in
theorem ssI (hlen : vs.length≤260) (n0 : 0 < n) (n5 : n≤5) (m10 : m≤10) (hq : ∀ p',PK 12 p' n (fun _ => 4095)→M32 32 [.val (.ref 0),.val (.int (nI n)),.val (.int (nI m)),.val (.int (nI u)),.val (.long p'),.second,.val (.int (nI n)),.unset,.unset,.unset,.unset,.unset] [] (put 1 [((FieldType.array .int,vs.map Value.int) : FieldType × List Value)] s A []) Q) : ∀ (r v : Nat) (p : Int64),v + r = n→PK 12 p v (fun _ => 4095)→M32 6 [.val (.ref 0),.val (.int (nI n)),.val (.int (nI m)),.val (.int (nI u)),.val (.long p),.second,.val (.int (nI v)),.unset,.unset,.unset,.unset,.unset] [] (put 1 [((FieldType.array .int,vs.map Value.int) : FieldType × List Value)] s A []) Q:=by
  intro r
  induction r with
  | zero =>
    intro v p e h
    obtain rfl : v = n:=by omega
    have c1 : (nI v < nI v) = False:=lF (by omega) (by omega)
    rw [m32_6]
    simp [c1,own_k32_0,m32_8,m32_9,m32_12,m32_14,m32_16,m32_18,m32_21,m32_24,m32_26,m32_29,m32_34,m32_35,m32_37,m32_40,m32_41,own_k32_2,own_k32_3,own_k32_4,own_k32_5,own_k32_6,own_k32_7,nb0,nb1,ou_a,Option.toList_some,Option.toList_none,List.nil_append,List.cons_append]
    exact hq p h
  | succ r ih =>
    intro v p e h
    have c1 : (nI v < nI n) = True:=lT (by omega) (by omega)
    rw [m32_6]
    simp [c1,nI_1,putW,own_k32_0,m32_8,m32_9,m32_12,m32_14,m32_16,m32_18,m32_21,m32_24,m32_26,m32_29,m32_34,m32_35,m32_37,m32_40,m32_41,own_k32_2,own_k32_3,own_k32_4,own_k32_5,own_k32_6,own_k32_7,nb0,nb1,ou_a,Option.toList_some,Option.toList_none,List.nil_append,List.cons_append]
    exact ih (v + 1) _ (by omega) (PK_stp (b:=12) (v:=4095) h rfl (by omega) (Or.inr rfl) (by decide))
theorem ssE (hlen : vs.length≤260) (n0 : 0 < n) (n5 : n≤5) (m10 : m≤10) (hS : SP n m u (srN vs n) (dsN vs n) (rgN vs) (dlN vs) rc W D) (hB : B5 n m (srN vs n) (dsN vs n) (rgN vs) (dlN vs) g) (hu : u < n) {k : Nat} (hq : ∀ p' f' l8 l9 l10 l11,PK 12 p' n f'→I1 n rc W D f'→I2 n u k rc W D g f'→I3 n u k m (srN vs n) (dsN vs n) (rgN vs) (dlN vs) rc W D g f'→okS l8→okS l9→okS l10→okS l11→M32 164 [.val (.ref 0),.val (.int (nI n)),.val (.int (nI m)),.val (.int (nI u)),.val (.long p'),.second,l6,.val (.int (nI m)),l8,l9,l10,l11] [] (put 1 [((FieldType.array .int,vs.map Value.int) : FieldType × List Value)] s A []) Q) : ∀ (r j : Nat) (p : Int64) (f : Nat→Nat) (l8 l9 l10 l11 : Slot),j + r = m→PK 12 p n f→I1 n rc W D f→I2 n u k rc W D g f→I3 n u k j (srN vs n) (dsN vs n) (rgN vs) (dlN vs) rc W D g f→okS l8→okS l9→okS l10→okS l11→M32 63 [.val (.ref 0),.val (.int (nI n)),.val (.int (nI m)),.val (.int (nI u)),.val (.long p),.second,l6,.val (.int (nI j)),l8,l9,l10,l11] [] (put 1 [((FieldType.array .int,vs.map Value.int) : FieldType × List Value)] s A []) Q:=by
  intro r
  induction r with
  | zero =>
    intro j p f l8 l9 l10 l11 e hp i1 i2 i3 o8 o9 o10 o11
    obtain rfl : j = m:=by omega
    have c1 : (nI j < nI j) = False:=lF (by omega) (by omega)
    rw [m32_63]
    simp [c1,own_k32_0,own_k32_1,own_k32_2,own_k32_3,own_k32_4,own_k32_5,own_k32_6,m32_147,m32_149,m32_151,m32_153,m32_156,m32_158,m32_161,m32_167,m32_170,m32_172,nb0,nb1,ou_a,Option.toList_some,Option.toList_none,List.nil_append,List.cons_append]
    exact hq p f _ _ _ _ hp i1 i2 i3 o8 o9 o10 o11
  | succ r ih =>
    intro j p f l8 l9 l10 l11 e hp i1 i2 i3 o8 o9 o10 o11
    have c1 : (nI j < nI m) = True:=lT (by omega) (by omega)
    have sd:=sdN vs n0 n5 j
    have d:=dl_b vs (dsN vs n j)
    have rb:=rg_b vs j
    have ga : gf p (nI (srN vs n j)) 12 = nI (f (srN vs n j)):=hp _ sd.1
    have gb : gf p (nI (dsN vs n j)) 12 = nI (f (dsN vs n j)):=hp _ sd.2
    have fa:=i1 _ sd.1
    have fb:=i1 _ sd.2
    rw [m32_63]
    simp [c1,own_k32_0,own_k32_1,own_k32_2,own_k32_3,own_k32_4,own_k32_5,own_k32_6,m32_147,m32_149,m32_151,m32_153,m32_156,m32_158,m32_161,m32_167,m32_170,m32_172,nb0,nb1,ou_a,Option.toList_some,Option.toList_none,List.nil_append,List.cons_append]
    refine srW hlen (by omega) n0 n5 ?_
    simp [o8,own_k32_0,own_k32_1,own_k32_2,own_k32_3,own_k32_4,own_k32_5,own_k32_6,m32_147,m32_149,m32_151,m32_153,m32_156,m32_158,m32_161,m32_167,m32_170,m32_172,nb0,nb1,ou_a,Option.toList_some,Option.toList_none,List.nil_append,List.cons_append]
    refine dsW hlen (by omega) n0 n5 ?_
    by_cases z : f (srN vs n j) = 4095
    · have z1 : (nI (f (srN vs n j)) = 4095) = True:=eT (c:=4095) z
      simp [o9,o10,getW,ga,z1,nI_1,own_k32_0,own_k32_1,own_k32_2,own_k32_3,own_k32_4,own_k32_5,own_k32_6,m32_147,m32_149,m32_151,m32_153,m32_156,m32_158,m32_161,m32_167,m32_170,m32_172,nb0,nb1,ou_a,Option.toList_some,Option.toList_none,List.nil_append,List.cons_append]
      exact ih (j + 1) p f _ _ _ _ (by omega) hp i1 i2 (I_skip hS hB (by omega) i1 i2 i3 (Or.inl z)) (okS_n _) (okS_n _) (okS_n _) o11
    · have z1 : (nI (f (srN vs n j)) = 4095) = False:=eF (c:=4095) z (by omega) (by decide)
      have fa':=fa.resolve_left z
      have lo : 53≤f (srN vs n j):=by
        have:=hS.b5 hB sd.1 fa'.1
        have:=fa'.2.1
        unfold co at this
        omega
      have es : nI (f (srN vs n j) + 128 * rgN vs j) - nI (dlN vs (dsN vs n j)) = nI (f (srN vs n j) + 128 * rgN vs j - dlN vs (dsN vs n j)):=nI_sub (by omega)
      simp [o9,o10,getW,ga,z1,own_k32_0,own_k32_1,own_k32_2,own_k32_3,own_k32_4,own_k32_5,own_k32_6,m32_147,m32_149,m32_151,m32_153,m32_156,m32_158,m32_161,m32_167,m32_170,m32_172,nb0,nb1,ou_a,Option.toList_some,Option.toList_none,List.nil_append,List.cons_append]
      refine rgW hlen (by omega) ?_
      simp [nI_128m,nI_add,own_k32_0,own_k32_1,own_k32_2,own_k32_3,own_k32_4,own_k32_5,own_k32_6,m32_147,m32_149,m32_151,m32_153,m32_156,m32_158,m32_161,m32_167,m32_170,m32_172,nb0,nb1,ou_a,Option.toList_some,Option.toList_none,List.nil_append,List.cons_append]
      refine dlW hlen (by omega) ?_
      by_cases y : f (srN vs n j) + 128 * rgN vs j - dlN vs (dsN vs n j) < f (dsN vs n j)
      · have y1 : (nI (f (srN vs n j) + 128 * rgN vs j - dlN vs (dsN vs n j)) < nI (f (dsN vs n j))) = True:=lT y (by omega)
        obtain ⟨j1,j2,j3⟩:=I_step hS hB (by omega) i1 i2 i3 z y
        simp [es,o11,getW,gb,y1,putW,nI_1,own_k32_0,own_k32_1,own_k32_2,own_k32_3,own_k32_4,own_k32_5,own_k32_6,m32_147,m32_149,m32_151,m32_153,m32_156,m32_158,m32_161,m32_167,m32_170,m32_172,nb0,nb1,ou_a,Option.toList_some,Option.toList_none,List.nil_append,List.cons_append]
        exact ih (j + 1) _ _ _ _ _ _ (by omega) (PK_set (b:=12) hp n5 (by omega) (Or.inr rfl) (by omega)) j1 j2 j3 (okS_n _) (okS_n _) (okS_n _) (okS_n _)
      · have y1 : (nI (f (srN vs n j) + 128 * rgN vs j - dlN vs (dsN vs n j)) < nI (f (dsN vs n j))) = False:=lF (by omega) (by omega)
        simp [es,o11,getW,gb,y1,nI_1,own_k32_0,own_k32_1,own_k32_2,own_k32_3,own_k32_4,own_k32_5,own_k32_6,m32_147,m32_149,m32_151,m32_153,m32_156,m32_158,m32_161,m32_167,m32_170,m32_172,nb0,nb1,ou_a,Option.toList_some,Option.toList_none,List.nil_append,List.cons_append]
        exact ih (j + 1) p f _ _ _ _ (by omega) hp i1 i2 (I_skip hS hB (by omega) i1 i2 i3 (Or.inr y)) (okS_n _) (okS_n _) (okS_n _) (okS_n _)
theorem ssR (hlen : vs.length≤260) (n0 : 0 < n) (n5 : n≤5) (m10 : m≤10) (hS : SP n m u (srN vs n) (dsN vs n) (rgN vs) (dlN vs) rc W D) (hB : B5 n m (srN vs n) (dsN vs n) (rgN vs) (dlN vs) g) (hu : u < n) (hq : ∀ p' f',PK 12 p' n f'→(∀ v,v < n→(rc v = true→f' v = co W D v)∧(rc v = false→f' v = 4095))→Q (some (.long p')) (put 1 [((FieldType.array .int,vs.map Value.int) : FieldType × List Value)] s A [])) : ∀ (r k : Nat) (p : Int64) (f : Nat→Nat) (l7 l8 l9 l10 l11 : Slot),k + r = n→PK 12 p n f→I1 n rc W D f→I2 n u k rc W D g f→okS l7→okS l8→okS l9→okS l10→okS l11→M32 54 [.val (.ref 0),.val (.int (nI n)),.val (.int (nI m)),.val (.int (nI u)),.val (.long p),.second,.val (.int (nI k)),l7,l8,l9,l10,l11] [] (put 1 [((FieldType.array .int,vs.map Value.int) : FieldType × List Value)] s A []) Q:=by
  intro r
  induction r with
  | zero =>
    intro k p f l7 l8 l9 l10 l11 e hp i1 i2 o7 o8 o9 o10 o11
    obtain rfl : k = n:=by omega
    have c1 : (nI k < nI k) = False:=lF (by omega) (by omega)
    rw [m32_54]
    simp [c1,own_k32_0,own_k32_1,own_k32_2,own_k32_3,own_k32_4,own_k32_5,own_k32_6,own_k32_7,nb0,nb1,ou_a,Option.toList_some,Option.toList_none,List.nil_append,List.cons_append]
    exact hq p f hp (fun v hv => I_end hS hB i1 i2 hv)
  | succ r ih =>
    intro k p f l7 l8 l9 l10 l11 e hp i1 i2 o7 o8 o9 o10 o11
    have c1 : (nI k < nI n) = True:=lT (by omega) (by omega)
    rw [m32_54]
    simp [c1,o7,own_k32_0,own_k32_1,own_k32_2,own_k32_3,own_k32_4,own_k32_5,own_k32_6,own_k32_7,nb0,nb1,ou_a,Option.toList_some,Option.toList_none,List.nil_append,List.cons_append]
    refine ssE (k:=k) hlen n0 n5 m10 hS hB hu (fun p' f' l8 l9 l10 l11 hp' j1 j2 j3 p8 p9 p10 p11 => ?_) m 0 p f _ _ _ _ (by omega) hp i1 i2 (fun e he => absurd he (by omega)) o8 o9 o10 o11
    simp [nI_1,own_k32_0,own_k32_1,own_k32_2,own_k32_3,own_k32_4,own_k32_5,own_k32_6,own_k32_7,nb0,nb1,ou_a,Option.toList_some,Option.toList_none,List.nil_append,List.cons_append]
    exact ih (k + 1) p' f' _ _ _ _ _ (by omega) hp' j1 (I_round hS hB j1 j2 j3) (okS_n _) p8 p9 p10 p11
theorem ssW (hlen : vs.length≤260) (n0 : 0 < n) (n5 : n≤5) (m10 : m≤10) (hS : SP n m u (srN vs n) (dsN vs n) (rgN vs) (dlN vs) rc W D) (hB : B5 n m (srN vs n) (dsN vs n) (rgN vs) (dlN vs) g) (hu : u < n) (hq : ∀ p' f',PK 12 p' n f'→(∀ v,v < n→(rc v = true→f' v = co W D v)∧(rc v = false→f' v = 4095))→Q (some (.long p')) (put 1 [((FieldType.array .int,vs.map Value.int) : FieldType × List Value)] s A [])) : M32 0 [.val (.ref 0),.val (.int (nI n)),.val (.int (nI m)),.val (.int (nI u)),.unset,.unset,.unset,.unset,.unset,.unset,.unset,.unset] [] (put 1 [((FieldType.array .int,vs.map Value.int) : FieldType × List Value)] s A []) Q:=by
  have d:=dl_b vs u
  have es : 128 - nI (dlN vs u) = nI (128 - dlN vs u):=nI_sub (a:=128) (by omega)
  simp [own_k32_0,own_k32_1,own_k32_2,own_k32_3,own_k32_4,own_k32_5,own_k32_6,own_k32_7,nb0,nb1,ou_a,Option.toList_some,Option.toList_none,List.nil_append,List.cons_append]
  refine ssI hlen n0 n5 m10 (fun p' hp => ?_) n 0 0 (by omega) (fun i hi => absurd hi (by omega))
  simp [own_k32_0,own_k32_1,own_k32_2,own_k32_3,own_k32_4,own_k32_5,own_k32_6,own_k32_7,nb0,nb1,ou_a,Option.toList_some,Option.toList_none,List.nil_append,List.cons_append]
  refine dlW hlen (by omega) ?_
  simp [es,putW,own_k32_0,own_k32_1,own_k32_2,own_k32_3,own_k32_4,own_k32_5,own_k32_6,own_k32_7,nb0,nb1,ou_a,Option.toList_some,Option.toList_none,List.nil_append,List.cons_append]
  have i0:=I_0 (f:=ou (fun _ => 4095) u (128 - dlN vs u)) hS hB hu (fun v _ hne => by rw [ou_a,if_neg hne]) (by rw [ou_a,if_pos rfl])
  exact ssR hlen n0 n5 m10 hS hB hu hq n 0 _ _ _ _ _ _ _ (by omega) (PK_set (b:=12) hp n5 (by omega) (Or.inr rfl) (by omega)) i0.1 i0.2 okS_u okS_u okS_u okS_u okS_u
end Ls
section Lf
variable {vs : List Int32} {Q : Option Value→AHeap→Prop} {s : Nat→Int32} {A : Nat→List Int32} {n m u : Nat} {g : Nat→Nat} {rc : Nat→Nat→Bool} {W D : Nat→Nat→Nat} {c : Int32} {l6 l7 l8 l9 l10 l11 l12 l13 l14 l15 : Slot}
def BD (n t : Nat) (f : Nat→Nat) : Prop:=∀ v,v < n→f v≤512∧512≤f v + t
def CU (n : Nat) (rc : Nat→Nat→Bool) (W D : Nat→Nat→Nat) (c : Int) (u v : Nat) (f : Nat→Nat) : Prop:=∀ u' v',u' < n→v' < n→(u' < u ∨ (u' = u∧v' < v))→rc u' v' = true→c < (D u' v' : Int)→f u' + 1≤f v' + W u' v'
def CE (src dst rg : Nat→Nat) (j : Nat) (f : Nat→Nat) : Prop:=∀ e,e < j→f (src e)≤f (dst e) + rg e
theorem BD_le {t t' : Nat} {f : Nat→Nat} (h : BD n t f) (e : t≤t') : BD n t' f:=fun v hv => by have:=h v hv; omega
theorem BD_set {t t' w : Nat} {f : Nat→Nat} (h : BD n t f) (ht : t' = t + 1) (hw : w≤512) (hw2 : 512≤w + t') : BD n t' (ou f u w):=fun v hv => by
  rw [ou_a]
  have:=h v hv
  split <;> omega
def FG (ch : Int32) (X : Prop) : Prop:=ch = 1 ∨ (ch = 0∧X)
set_option maxRecDepth 1000000 in
set_option maxHeartbeats 20000000 in
theorem feI (hlen : vs.length≤260) (n0 : 0 < n) (n5 : n≤5) (m10 : m≤10) (hq : ∀ p',PK 10 p' n (fun _ => 512)→M33 32 [.val (.ref 0),.val (.int (nI n)),.val (.int (nI m)),.val (.int (c)),.val (.long p'),.second,.val (.int (nI n)),.unset,.unset,.unset,.unset,.unset,.unset,.unset,.unset,.unset] [] (put 1 [((FieldType.array .int,vs.map Value.int) : FieldType × List Value)] s A []) Q) : ∀ (r v : Nat) (p : Int64),v + r = n→PK 10 p v (fun _ => 512)→M33 6 [.val (.ref 0),.val (.int (nI n)),.val (.int (nI m)),.val (.int (c)),.val (.long p),.second,.val (.int (nI v)),.unset,.unset,.unset,.unset,.unset,.unset,.unset,.unset,.unset] [] (put 1 [((FieldType.array .int,vs.map Value.int) : FieldType × List Value)] s A []) Q:=by
  intro r
  induction r with
  | zero =>
    intro v p e h
    obtain rfl : v = n:=by omega
    have c1 : (nI v < nI v) = False:=lF (by omega) (by omega)
    rw [m33_6]
    simp [c1,own_k33_0,m33_8,m33_9,m33_12,m33_14,m33_16,m33_18,m33_21,m33_24,m33_26,m33_29,m33_33i,own_k33_2,own_k33_3,own_k33_4,own_k33_5,own_k33_6,own_k33_7,own_k33_8,own_k33_9,own_k33_10,own_k33_11,own_k33_12,nb0,nb1,ou_a,Option.toList_some,Option.toList_none,List.nil_append,List.cons_append]
    exact hq p h
  | succ r ih =>
    intro v p e h
    have c1 : (nI v < nI n) = True:=lT (by omega) (by omega)
    rw [m33_6]
    simp [c1,nI_1,putW,own_k33_0,m33_8,m33_9,m33_12,m33_14,m33_16,m33_18,m33_21,m33_24,m33_26,m33_29,m33_33i,own_k33_2,own_k33_3,own_k33_4,own_k33_5,own_k33_6,own_k33_7,own_k33_8,own_k33_9,own_k33_10,own_k33_11,own_k33_12,nb0,nb1,ou_a,Option.toList_some,Option.toList_none,List.nil_append,List.cons_append]
    exact ih (v + 1) _ (by omega) (PK_stp (b:=10) (v:=512) h rfl (by omega) (Or.inl rfl) (by decide))
theorem feV (hlen : vs.length≤260) (n0 : 0 < n) (n5 : n≤5) (m10 : m≤10) (hS : ∀ u,u < n→SP n m u (srN vs n) (dsN vs n) (rgN vs) (dlN vs) (rc u) (W u) (D u)) (hB : B5 n m (srN vs n) (dsN vs n) (rgN vs) (dlN vs) g) {t : Nat} {sp : Int64} {F : Nat→Nat} (hu : u < n) (ht : t≤300) (hsp : PK 12 sp n F) (hF : ∀ v,v < n→(rc u v = true→F v = co (W u) (D u) v)∧(rc u v = false→F v = 4095))
    (hq : ∀ p' f' ch' l12 l13 l14 l15,PK 10 p' n f'→BD n (t + n) f'→FG ch' (CU n rc W D c.toInt u n f')→okS l12→okS l13→okS l14→okS l15→M33 178 [.val (.ref 0),.val (.int (nI n)),.val (.int (nI m)),.val (.int (c)),.val (.long p'),.second,l6,.val (.int (ch')),.val (.int (nI u)),.val (.long sp),.second,.val (.int (nI n)),l12,l13,l14,l15] [] (put 1 [((FieldType.array .int,vs.map Value.int) : FieldType × List Value)] s A []) Q) : ∀ (r v : Nat) (p : Int64) (f : Nat→Nat) (ch : Int32) (l12 l13 l14 l15 : Slot),v + r = n→PK 10 p n f→BD n (t + v) f→FG ch (CU n rc W D c.toInt u v f)→okS l12→okS l13→okS l14→okS l15→M33 66 [.val (.ref 0),.val (.int (nI n)),.val (.int (nI m)),.val (.int (c)),.val (.long p),.second,l6,.val (.int (ch)),.val (.int (nI u)),.val (.long sp),.second,.val (.int (nI v)),l12,l13,l14,l15] [] (put 1 [((FieldType.array .int,vs.map Value.int) : FieldType × List Value)] s A []) Q:=by
  intro r
  induction r with
  | zero =>
    intro v p f ch l12 l13 l14 l15 e hp hb hg o12 o13 o14 o15
    obtain rfl : v = n:=by omega
    have c1 : (nI v < nI v) = False:=lF (by omega) (by omega)
    rw [m33_66]
    simp [c1,own_k33_0,own_k33_1,own_k33_2,own_k33_3,own_k33_4,own_k33_5,own_k33_6,m33_144,m33_146,m33_148,m33_150,m33_153,m33_156,m33_158,m33_160,m33_162,m33_164,m33_167,m33_169,m33_170i,m33_172,m33_175,own_k33_8,own_k33_9,own_k33_10,own_k33_11,own_k33_12,nb0,nb1,ou_a,Option.toList_some,Option.toList_none,List.nil_append,List.cons_append]
    exact hq p f ch _ _ _ _ hp hb hg o12 o13 o14 o15
  | succ r ih =>
    intro v p f ch l12 l13 l14 l15 e hp hb hg o12 o13 o14 o15
    have hv : v < n:=by omega
    have c1 : (nI v < nI n) = True:=lT (by omega) (by omega)
    have gs : gf sp (nI v) 12 = nI (F v):=hsp _ hv
    have gv : gf p (nI v) 10 = nI (f v):=hp _ hv
    have gu : gf p (nI u) 10 = nI (f u):=hp _ hu
    have bv:=hb v hv
    have bu:=hb u hu
    rw [m33_66]
    cases z : rc u v with
    | false =>
      have f0:=(hF v hv).2 z
      have z1 : (nI (F v) = 4095) = True:=eT (c:=4095) f0
      simp [c1,getW,gs,z1,o12,nI_1,own_k33_0,own_k33_1,own_k33_2,own_k33_3,own_k33_4,own_k33_5,own_k33_6,m33_144,m33_146,m33_148,m33_150,m33_153,m33_156,m33_158,m33_160,m33_162,m33_164,m33_167,m33_169,m33_170i,m33_172,m33_175,own_k33_8,own_k33_9,own_k33_10,own_k33_11,own_k33_12,nb0,nb1,ou_a,Option.toList_some,Option.toList_none,List.nil_append,List.cons_append]
      refine ih (v + 1) p f ch _ _ _ _ (by omega) hp (BD_le hb (by omega)) ?_ (okS_n _) o13 o14 o15
      rcases hg with hg | ⟨hg,hc⟩
      · exact Or.inl hg
      · refine Or.inr ⟨hg,fun u' v' hu' hv' hl hr hd => ?_⟩
        by_cases y : u' = u∧v' = v
        · rw [y.1,y.2,z] at hr; cases hr
        · exact hc u' v' hu' hv' (by omega) hr hd
    | true =>
      have f0:=(hF v hv).1 z
      obtain ⟨k1,k2,k3,k4,k5⟩:=co_d (hS u hu) hB hv z
      have k6:=(hS u hu).b5 hB hv z
      have z1 : (nI (F v) = 4095) = False:=eF (c:=4095) (by omega) (by omega) (by decide)
      rw [← f0] at k1 k2 k3 k4 k5
      have e1 : nI (F v + 127) / 128 = nI (W u v + 1):=(nI_div (c:=128) (by omega) (by decide)).trans (by rw [k3])
      have e2 : nI (W u v + 1) - 1 = nI (W u v):=nI_sub (c:=1) (by omega)
      have e3 : nI (128 * (W u v + 1)) - nI (F v) = nI (D u v):=(nI_sub (by omega)).trans (by rw [k4])
      by_cases y : c.toInt < (D u v : Int)
      · have y1 : (c < nI (D u v)) = True:=eq_true (by rw [lt_i,nI_int (by omega)]; exact y)
        have e4 : nI (f v + W u v) - 1 = nI (f v + W u v - 1):=nI_sub (c:=1) (by omega)
        by_cases x : f v + W u v - 1 < f u
        · have x1 : (nI (f v + W u v - 1) < nI (f u)) = True:=lT x (by omega)
          simp [c1,getW,gs,z1,o12,o13,o14,o15,nI_127,nI_128m,e1,e2,e3,y1,gv,gu,e4,x1,putW,nI_add,nI_1,own_k33_0,own_k33_1,own_k33_2,own_k33_3,own_k33_4,own_k33_5,own_k33_6,m33_144,m33_146,m33_148,m33_150,m33_153,m33_156,m33_158,m33_160,m33_162,m33_164,m33_167,m33_169,m33_170i,m33_172,m33_175,own_k33_8,own_k33_9,own_k33_10,own_k33_11,own_k33_12,nb0,nb1,ou_a,Option.toList_some,Option.toList_none,List.nil_append,List.cons_append]
          exact ih (v + 1) _ _ 1 _ _ _ _ (by omega) (PK_set (b:=10) hp n5 (by omega) (Or.inl rfl) (by omega)) (BD_set hb (by omega) (by omega) (by omega)) (Or.inl rfl) (okS_n _) (okS_n _) (okS_n _) (okS_n _)
        · have x1 : (nI (f v + W u v - 1) < nI (f u)) = False:=lF (by omega) (by omega)
          simp [c1,getW,gs,z1,o12,o13,o14,o15,nI_127,nI_128m,e1,e2,e3,y1,gv,gu,e4,x1,nI_add,nI_1,own_k33_0,own_k33_1,own_k33_2,own_k33_3,own_k33_4,own_k33_5,own_k33_6,m33_144,m33_146,m33_148,m33_150,m33_153,m33_156,m33_158,m33_160,m33_162,m33_164,m33_167,m33_169,m33_170i,m33_172,m33_175,own_k33_8,own_k33_9,own_k33_10,own_k33_11,own_k33_12,nb0,nb1,ou_a,Option.toList_some,Option.toList_none,List.nil_append,List.cons_append]
          refine ih (v + 1) p f ch _ _ _ _ (by omega) hp (BD_le hb (by omega)) ?_ (okS_n _) (okS_n _) (okS_n _) (okS_n _)
          rcases hg with hg | ⟨hg,hc⟩
          · exact Or.inl hg
          · refine Or.inr ⟨hg,fun u' v' hu' hv' hl hr hd => ?_⟩
            by_cases q : u' = u∧v' = v
            · rw [q.1,q.2]; omega
            · exact hc u' v' hu' hv' (by omega) hr hd
      · have y1 : (c < nI (D u v)) = False:=eq_false (by rw [lt_i,nI_int (by omega)]; exact y)
        simp [c1,getW,gs,z1,o12,o13,o14,nI_127,nI_128m,e1,e2,e3,y1,nI_1,own_k33_0,own_k33_1,own_k33_2,own_k33_3,own_k33_4,own_k33_5,own_k33_6,m33_144,m33_146,m33_148,m33_150,m33_153,m33_156,m33_158,m33_160,m33_162,m33_164,m33_167,m33_169,m33_170i,m33_172,m33_175,own_k33_8,own_k33_9,own_k33_10,own_k33_11,own_k33_12,nb0,nb1,ou_a,Option.toList_some,Option.toList_none,List.nil_append,List.cons_append]
        refine ih (v + 1) p f ch _ _ _ _ (by omega) hp (BD_le hb (by omega)) ?_ (okS_n _) (okS_n _) (okS_n _) o15
        rcases hg with hg | ⟨hg,hc⟩
        · exact Or.inl hg
        · refine Or.inr ⟨hg,fun u' v' hu' hv' hl hr hd => ?_⟩
          by_cases q : u' = u∧v' = v
          · rw [q.1,q.2] at hd; exact absurd hd y
          · exact hc u' v' hu' hv' (by omega) hr hd
theorem feU (hlen : vs.length≤260) (n0 : 0 < n) (n5 : n≤5) (m10 : m≤10) (hS : ∀ u,u < n→SP n m u (srN vs n) (dsN vs n) (rgN vs) (dlN vs) (rc u) (W u) (D u)) (hB : B5 n m (srN vs n) (dsN vs n) (rgN vs) (dlN vs) g) {t : Nat} (ht : t≤250) (hq : ∀ p' f' ch' l9 l10 l11 l12 l13 l14 l15,PK 10 p' n f'→BD n (t + n * 5) f'→FG ch' (CU n rc W D c.toInt n 0 f')→okP l9 l10→okS l11→okS l12→okS l13→okS l14→okS l15→M33 184 [.val (.ref 0),.val (.int (nI n)),.val (.int (nI m)),.val (.int (c)),.val (.long p'),.second,l6,.val (.int (ch')),.val (.int (nI n)),l9,l10,l11,l12,l13,l14,l15] [] (put 1 [((FieldType.array .int,vs.map Value.int) : FieldType × List Value)] s A []) Q) : ∀ (r u : Nat) (p : Int64) (f : Nat→Nat) (ch : Int32) (l9 l10 l11 l12 l13 l14 l15 : Slot),u + r = n→PK 10 p n f→BD n (t + u * 5) f→FG ch (CU n rc W D c.toInt u 0 f)→okP l9 l10→okS l11→okS l12→okS l13→okS l14→okS l15→M33 47 [.val (.ref 0),.val (.int (nI n)),.val (.int (nI m)),.val (.int (c)),.val (.long p),.second,l6,.val (.int (ch)),.val (.int (nI u)),l9,l10,l11,l12,l13,l14,l15] [] (put 1 [((FieldType.array .int,vs.map Value.int) : FieldType × List Value)] s A []) Q:=by
  intro r
  induction r with
  | zero =>
    intro u p f ch l9 l10 l11 l12 l13 l14 l15 e hp hb hg o9 o11 o12 o13 o14 o15
    obtain rfl : u = n:=by omega
    have c1 : (nI u < nI u) = False:=lF (by omega) (by omega)
    rw [m33_47]
    simp [c1,own_k33_0,own_k33_1,own_k33_2,own_k33_3,own_k33_4,own_k33_5,own_k33_6,own_k33_7,m33_181,m33_185i,own_k33_9,own_k33_10,own_k33_11,own_k33_12,nb0,nb1,ou_a,Option.toList_some,Option.toList_none,List.nil_append,List.cons_append]
    exact hq p f ch _ _ _ _ _ _ _ hp hb hg o9 o11 o12 o13 o14 o15
  | succ r ih =>
    intro u p f ch l9 l10 l11 l12 l13 l14 l15 e hp hb hg o9 o11 o12 o13 o14 o15
    have c1 : (nI u < nI n) = True:=lT (by omega) (by omega)
    rw [m33_47]
    simp [c1,own_k33_0,own_k33_1,own_k33_2,own_k33_3,own_k33_4,own_k33_5,own_k33_6,own_k33_7,m33_181,m33_185i,own_k33_9,own_k33_10,own_k33_11,own_k33_12,nb0,nb1,ou_a,Option.toList_some,Option.toList_none,List.nil_append,List.cons_append]
    refine ssW hlen n0 n5 m10 (hS u (by omega)) hB (by omega) (fun sp F hsp hF => ?_)
    have st:=own_Lfeasible_61 (H:=(put 1 [((FieldType.array .int,vs.map Value.int) : FieldType × List Value)] s A [])) (Q:=Q) (st:=[]) (J1:=sp) (l0:=.val (.ref 0)) (l1:=.val (.int (nI n))) (l2:=.val (.int (nI m))) (l3:=.val (.int (c))) (l4:=.val (.long p)) (l5:=.second) (l6:=l6) (l7:=.val (.int (ch))) (l8:=.val (.int (nI u))) (l11:=l11) (l12:=l12) (l13:=l13) (l14:=l14) (l15:=l15) o9
    show M33 61 _ [.long sp] _ _
    rw [st]
    simp [o11,own_k33_0,own_k33_1,own_k33_2,own_k33_3,own_k33_4,own_k33_5,own_k33_6,own_k33_7,m33_181,m33_185i,own_k33_9,own_k33_10,own_k33_11,own_k33_12,nb0,nb1,ou_a,Option.toList_some,Option.toList_none,List.nil_append,List.cons_append]
    refine feV (t:=t + u * 5) hlen n0 n5 m10 hS hB (by omega) (by omega) hsp hF (fun p' f' ch' l12 l13 l14 l15 hp' hb' hg' p12 p13 p14 p15 => ?_) n 0 p f ch _ _ _ _ (by omega) hp hb hg o12 o13 o14 o15
    simp [nI_1,own_k33_0,own_k33_1,own_k33_2,own_k33_3,own_k33_4,own_k33_5,own_k33_6,own_k33_7,m33_181,m33_185i,own_k33_9,own_k33_10,own_k33_11,own_k33_12,nb0,nb1,ou_a,Option.toList_some,Option.toList_none,List.nil_append,List.cons_append]
    refine ih (u + 1) p' f' ch' _ _ _ _ _ _ _ (by omega) hp' (BD_le hb' (by omega)) ?_ (okP_l _) (okS_n _) p12 p13 p14 p15
    rcases hg' with hg' | ⟨hg',hc⟩
    · exact Or.inl hg'
    · exact Or.inr ⟨hg',fun u' v' hu' hv' hl hr hd => hc u' v' hu' hv' (by omega) hr hd⟩
theorem feE (hlen : vs.length≤260) (n0 : 0 < n) (n5 : n≤5) (m10 : m≤10) (hS : ∀ u,u < n→SP n m u (srN vs n) (dsN vs n) (rgN vs) (dlN vs) (rc u) (W u) (D u)) (hB : B5 n m (srN vs n) (dsN vs n) (rgN vs) (dlN vs) g) {t : Nat} (ht : t≤300) (hq : ∀ p' f' ch' l9 l10 l11,PK 10 p' n f'→BD n (t + m) f'→FG ch' (CU n rc W D c.toInt n 0 f'∧CE (srN vs n) (dsN vs n) (rgN vs) m f')→okP l9 l10→okS l11→M33 265 [.val (.ref 0),.val (.int (nI n)),.val (.int (nI m)),.val (.int (c)),.val (.long p'),.second,l6,.val (.int (ch')),.val (.int (nI m)),l9,l10,l11,l12,l13,l14,l15] [] (put 1 [((FieldType.array .int,vs.map Value.int) : FieldType × List Value)] s A []) Q) : ∀ (r j : Nat) (p : Int64) (f : Nat→Nat) (ch : Int32) (l9 l10 l11 : Slot),j + r = m→PK 10 p n f→BD n (t + j) f→FG ch (CU n rc W D c.toInt n 0 f∧CE (srN vs n) (dsN vs n) (rgN vs) j f)→okP l9 l10→okS l11→M33 187 [.val (.ref 0),.val (.int (nI n)),.val (.int (nI m)),.val (.int (c)),.val (.long p),.second,l6,.val (.int (ch)),.val (.int (nI j)),l9,l10,l11,l12,l13,l14,l15] [] (put 1 [((FieldType.array .int,vs.map Value.int) : FieldType × List Value)] s A []) Q:=by
  intro r
  induction r with
  | zero =>
    intro j p f ch l9 l10 l11 e hp hb hg o9 o11
    obtain rfl : j = m:=by omega
    have c1 : (nI j < nI j) = False:=lF (by omega) (by omega)
    rw [m33_187]
    simp [c1,own_k33_0,own_k33_1,own_k33_2,own_k33_3,own_k33_4,own_k33_5,own_k33_6,own_k33_7,own_k33_8,own_k33_9,own_k33_10,m33_240,m33_243,m33_245,m33_247,m33_249,m33_251,m33_254,m33_256,m33_257i,m33_259,m33_262,m33_267,m33_270,m33_271,m33_272,own_k33_12,nb0,nb1,ou_a,Option.toList_some,Option.toList_none,List.nil_append,List.cons_append]
    exact hq p f ch _ _ _ hp hb hg o9 o11
  | succ r ih =>
    intro j p f ch l9 l10 l11 e hp hb hg o9 o11
    have c1 : (nI j < nI m) = True:=lT (by omega) (by omega)
    have sd:=sdN vs n0 n5 j
    have rb:=rg_b vs j
    have ga : gf p (nI (srN vs n j)) 10 = nI (f (srN vs n j)):=hp _ sd.1
    have gb : gf p (nI (dsN vs n j)) 10 = nI (f (dsN vs n j)):=hp _ sd.2
    have ba:=hb _ sd.1
    have bb:=hb _ sd.2
    rw [m33_187]
    simp [c1,own_k33_0,own_k33_1,own_k33_2,own_k33_3,own_k33_4,own_k33_5,own_k33_6,own_k33_7,own_k33_8,own_k33_9,own_k33_10,m33_240,m33_243,m33_245,m33_247,m33_249,m33_251,m33_254,m33_256,m33_257i,m33_259,m33_262,m33_267,m33_270,m33_271,m33_272,own_k33_12,nb0,nb1,ou_a,Option.toList_some,Option.toList_none,List.nil_append,List.cons_append]
    refine srW hlen (by omega) n0 n5 ?_
    obtain ⟨k10,ok,es⟩:=own_Lfeasible_200 (H:=(put 1 [((FieldType.array .int,vs.map Value.int) : FieldType × List Value)] s A [])) (Q:=Q) (st:=[]) (v:=nI (srN vs n j)) (l0:=.val (.ref 0)) (l1:=.val (.int (nI n))) (l2:=.val (.int (nI m))) (l3:=.val (.int (c))) (l4:=.val (.long p)) (l5:=.second) (l6:=l6) (l7:=.val (.int (ch))) (l8:=.val (.int (nI j))) (l11:=l11) (l12:=l12) (l13:=l13) (l14:=l14) (l15:=l15) o9
    show M33 200 _ [.int _] _ _
    rw [es]
    simp [own_k33_0,own_k33_1,own_k33_2,own_k33_3,own_k33_4,own_k33_5,own_k33_6,own_k33_7,own_k33_8,own_k33_9,own_k33_10,m33_240,m33_243,m33_245,m33_247,m33_249,m33_251,m33_254,m33_256,m33_257i,m33_259,m33_262,m33_267,m33_270,m33_271,m33_272,own_k33_12,nb0,nb1,ou_a,Option.toList_some,Option.toList_none,List.nil_append,List.cons_append]
    refine dsW hlen (by omega) n0 n5 ?_
    simp [ok,getW,gb,own_k33_0,own_k33_1,own_k33_2,own_k33_3,own_k33_4,own_k33_5,own_k33_6,own_k33_7,own_k33_8,own_k33_9,own_k33_10,m33_240,m33_243,m33_245,m33_247,m33_249,m33_251,m33_254,m33_256,m33_257i,m33_259,m33_262,m33_267,m33_270,m33_271,m33_272,own_k33_12,nb0,nb1,ou_a,Option.toList_some,Option.toList_none,List.nil_append,List.cons_append]
    refine rgW hlen (by omega) ?_
    by_cases y : f (dsN vs n j) + rgN vs j < f (srN vs n j)
    · have y1 : (nI (f (dsN vs n j) + rgN vs j) < nI (f (srN vs n j))) = True:=lT y (by omega)
      simp [nI_add,o11,getW,ga,y1,putW,nI_1,own_k33_0,own_k33_1,own_k33_2,own_k33_3,own_k33_4,own_k33_5,own_k33_6,own_k33_7,own_k33_8,own_k33_9,own_k33_10,m33_240,m33_243,m33_245,m33_247,m33_249,m33_251,m33_254,m33_256,m33_257i,m33_259,m33_262,m33_267,m33_270,m33_271,m33_272,own_k33_12,nb0,nb1,ou_a,Option.toList_some,Option.toList_none,List.nil_append,List.cons_append]
      exact ih (j + 1) _ _ 1 _ _ _ (by omega) (PK_set (b:=10) hp n5 (by omega) (Or.inl rfl) (by omega)) (BD_set hb (by omega) (by omega) (by omega)) (Or.inl rfl) (Or.inl ⟨okS_n _,okS_n _⟩) (okS_n _)
    · have y1 : (nI (f (dsN vs n j) + rgN vs j) < nI (f (srN vs n j))) = False:=lF (by omega) (by omega)
      simp [nI_add,o11,getW,ga,y1,nI_1,own_k33_0,own_k33_1,own_k33_2,own_k33_3,own_k33_4,own_k33_5,own_k33_6,own_k33_7,own_k33_8,own_k33_9,own_k33_10,m33_240,m33_243,m33_245,m33_247,m33_249,m33_251,m33_254,m33_256,m33_257i,m33_259,m33_262,m33_267,m33_270,m33_271,m33_272,own_k33_12,nb0,nb1,ou_a,Option.toList_some,Option.toList_none,List.nil_append,List.cons_append]
      refine ih (j + 1) p f ch _ _ _ (by omega) hp (BD_le hb (by omega)) ?_ (Or.inl ⟨okS_n _,okS_n _⟩) (okS_n _)
      rcases hg with hg | ⟨hg,hc⟩
      · exact Or.inl hg
      · refine Or.inr ⟨hg,hc.1,fun e he => ?_⟩
        by_cases q : e = j
        · rw [q]; omega
        · exact hc.2 e (by omega)
theorem feR (hlen : vs.length≤260) (n0 : 0 < n) (n5 : n≤5) (m10 : m≤10) (hS : ∀ u,u < n→SP n m u (srN vs n) (dsN vs n) (rgN vs) (dlN vs) (rc u) (W u) (D u)) (hB : B5 n m (srN vs n) (dsN vs n) (rgN vs) (dlN vs) g) (h1 : ∀ f,CN0 n m (srN vs n) (dsN vs n) (rgN vs) rc W D c.toInt f→Q (some (.int 1)) (put 1 [((FieldType.array .int,vs.map Value.int) : FieldType × List Value)] s A [])) (h0 : Q (some (.int 0)) (put 1 [((FieldType.array .int,vs.map Value.int) : FieldType × List Value)] s A [])) : ∀ (r k : Nat) (p : Int64) (f : Nat→Nat) (l7 l8 l9 l10 l11 l12 l13 l14 l15 : Slot),k + r = n + 1→PK 10 p n f→BD n (k * 40) f→okS l7→okS l8→okP l9 l10→okS l11→okS l12→okS l13→okS l14→okS l15→M33 35 [.val (.ref 0),.val (.int (nI n)),.val (.int (nI m)),.val (.int (c)),.val (.long p),.second,.val (.int (nI k)),l7,l8,l9,l10,l11,l12,l13,l14,l15] [] (put 1 [((FieldType.array .int,vs.map Value.int) : FieldType × List Value)] s A []) Q:=by
  intro r
  induction r with
  | zero =>
    intro k p f l7 l8 l9 l10 l11 l12 l13 l14 l15 e hp hb o7 o8 o9 o11 o12 o13 o14 o15
    have c1 : (nI n < nI k) = True:=lT (by omega) (by omega)
    rw [m33_35]
    simp [c1,own_k33_0,own_k33_1,own_k33_2,own_k33_3,own_k33_4,own_k33_5,own_k33_6,own_k33_7,own_k33_8,own_k33_9,own_k33_10,own_k33_11,own_k33_12,nb0,nb1,ou_a,Option.toList_some,Option.toList_none,List.nil_append,List.cons_append]
    exact h0
  | succ r ih =>
    intro k p f l7 l8 l9 l10 l11 l12 l13 l14 l15 e hp hb o7 o8 o9 o11 o12 o13 o14 o15
    have c1 : (nI n < nI k) = False:=lF (by omega) (by omega)
    rw [m33_35]
    simp [c1,o7,o8,own_k33_0,own_k33_1,own_k33_2,own_k33_3,own_k33_4,own_k33_5,own_k33_6,own_k33_7,own_k33_8,own_k33_9,own_k33_10,own_k33_11,own_k33_12,nb0,nb1,ou_a,Option.toList_some,Option.toList_none,List.nil_append,List.cons_append]
    refine feU (t:=k * 40) hlen n0 n5 m10 hS hB (by omega) (fun p1 f1 ch1 l9 l10 l11 l12 l13 l14 l15 hp1 hb1 hg1 p9 p11 p12 p13 p14 p15 => ?_) n 0 p f 0 _ _ _ _ _ _ _ (by omega) hp hb (Or.inr ⟨rfl,fun _ _ _ _ h => absurd h (by omega)⟩) o9 o11 o12 o13 o14 o15
    simp [own_k33_0,own_k33_1,own_k33_2,own_k33_3,own_k33_4,own_k33_5,own_k33_6,own_k33_7,own_k33_8,own_k33_9,own_k33_10,own_k33_11,own_k33_12,nb0,nb1,ou_a,Option.toList_some,Option.toList_none,List.nil_append,List.cons_append]
    refine feE (t:=k * 40 + n * 5) hlen n0 n5 m10 hS hB (by omega) (fun p2 f2 ch2 l9 l10 l11 hp2 hb2 hg2 r9 r11 => ?_) m 0 p1 f1 ch1 _ _ _ (by omega) hp1 hb1 ?_ p9 p11
    · rcases hg2 with rfl | ⟨rfl,hc,hd⟩
      · simp [nI_1,own_k33_0,own_k33_1,own_k33_2,own_k33_3,own_k33_4,own_k33_5,own_k33_6,own_k33_7,own_k33_8,own_k33_9,own_k33_10,own_k33_11,own_k33_12,nb0,nb1,ou_a,Option.toList_some,Option.toList_none,List.nil_append,List.cons_append]
        exact ih (k + 1) p2 f2 _ _ _ _ _ _ _ _ _ (by omega) hp2 (BD_le hb2 (by omega)) (okS_i _) (okS_n _) r9 r11 p12 p13 p14 p15
      · simp [own_k33_0,own_k33_1,own_k33_2,own_k33_3,own_k33_4,own_k33_5,own_k33_6,own_k33_7,own_k33_8,own_k33_9,own_k33_10,own_k33_11,own_k33_12,nb0,nb1,ou_a,Option.toList_some,Option.toList_none,List.nil_append,List.cons_append]
        exact h1 f2 ⟨fun v hv => (hb2 v hv).1,fun u' v' hu' hv' hr hd' => hc u' v' hu' hv' (Or.inl hu') hr hd',hd⟩
    · rcases hg1 with hg1 | ⟨hg1,hc⟩
      · exact Or.inl hg1
      · exact Or.inr ⟨hg1,hc,fun e he => absurd he (by omega)⟩
theorem LfW (hlen : vs.length≤260) (n0 : 0 < n) (n5 : n≤5) (m10 : m≤10) (hS : ∀ u,u < n→SP n m u (srN vs n) (dsN vs n) (rgN vs) (dlN vs) (rc u) (W u) (D u)) (hB : B5 n m (srN vs n) (dsN vs n) (rgN vs) (dlN vs) g) (h1 : ∀ f,CN0 n m (srN vs n) (dsN vs n) (rgN vs) rc W D c.toInt f→Q (some (.int 1)) (put 1 [((FieldType.array .int,vs.map Value.int) : FieldType × List Value)] s A [])) (h0 : Q (some (.int 0)) (put 1 [((FieldType.array .int,vs.map Value.int) : FieldType × List Value)] s A [])) : M33 0 [.val (.ref 0),.val (.int (nI n)),.val (.int (nI m)),.val (.int (c)),.unset,.unset,.unset,.unset,.unset,.unset,.unset,.unset,.unset,.unset,.unset,.unset] [] (put 1 [((FieldType.array .int,vs.map Value.int) : FieldType × List Value)] s A []) Q:=by
  simp [own_k33_0,own_k33_1,own_k33_2,own_k33_3,own_k33_4,own_k33_5,own_k33_6,own_k33_7,own_k33_8,own_k33_9,own_k33_10,own_k33_11,own_k33_12,nb0,nb1,ou_a,Option.toList_some,Option.toList_none,List.nil_append,List.cons_append]
  refine feI hlen n0 n5 m10 (fun p' hp => ?_) n 0 0 (by omega) (fun i hi => absurd hi (by omega))
  simp [own_k33_0,own_k33_1,own_k33_2,own_k33_3,own_k33_4,own_k33_5,own_k33_6,own_k33_7,own_k33_8,own_k33_9,own_k33_10,own_k33_11,own_k33_12,nb0,nb1,ou_a,Option.toList_some,Option.toList_none,List.nil_append,List.cons_append]
  exact feR hlen n0 n5 m10 hS hB h1 h0 (n + 1) 0 p' _ _ _ _ _ _ _ _ _ _ (by omega) hp (fun v _ => ⟨by omega,by omega⟩) okS_u okS_u okP_u okS_u okS_u okS_u okS_u okS_u
end Lf
def voF (vs : List Int32) : Nat→Int32:=fun v => nI (mdN (cel vs (1 + 3 * v)) 4)
def vdF (vs : List Int32) : Nat→Int32:=fun v => nI (dlN vs v)
def vkF (vs : List Int32) : Nat→Int32:=fun v => cel vs (3 + 3 * v)
def reF (vs : List Int32) : Nat→Int32:=fun e => nI (rgN vs e)
abbrev KG (vs : List Int32) (n i j : Nat) (s : Nat→Int32) (A : Nat→List Int32) : Prop:=KC i j (voF vs) (vdF vs) (vkF vs) (srN vs n) (dsN vs n) (reF vs) s A
theorem vd_i (vs : List Int32) (v : Nat) : (vdF vs v).toInt = dlN vs v:=nI_int (by have:=dl_b vs v; omega)
theorem re_i (vs : List Int32) (e : Nat) : (reF vs e).toInt = rgN vs e:=nI_int (by have:=rg_b vs e; omega)
theorem rgeF (vs : List Int32) (n m : Nat) : RGE n m (vdF vs) (reF vs):=⟨fun v _ => by have:=dl_b vs v; rw [vd_i]; omega,fun e _ => by have:=rg_b vs e; rw [re_i]; omega⟩
def ZM (w : Int64) (j : Nat) (F : Nat→Bool) : Prop:=∀ i,i < 64→ZB w i = (decide (i < j) && F i)
theorem ZM_0 (F : Nat→Bool) : ZM 0 0 F:=fun i _ => by rw [zb_0]; simp
theorem ZM_s {w : Int64} {j : Nat} {F : Nat→Bool} (h : ZM w j F) (hj : j < 16) (hF : F j = true) : ZM (w ||| (1 <<< ((nI j).toInt64 &&& 63))) (j + 1) F:=fun i hi => by
  rw [zb_s hj hi,h i hi]
  by_cases e : i = j
  · subst e; simp [hF]
  · have : (i < j + 1) = (i < j):=by apply propext; omega
    simp [e,this]
theorem ZM_n {w : Int64} {j : Nat} {F : Nat→Bool} (h : ZM w j F) (hF : F j = false) : ZM w (j + 1) F:=fun i hi => by
  rw [h i hi]
  by_cases e : i = j
  · subst e; simp [hF]
  · have : (i < j + 1) = (i < j):=by apply propext; omega
    simp [this]
section Lw
variable {vs : List Int32} {Q : Option Value→AHeap→Prop} {s : Nat→Int32} {A : Nat→List Int32} {n m : Nat} {l3 l4 l5 l6 l7 l8 l9 l10 l11 l12 l13 l14 l15 l16 l17 : Slot}
set_option maxRecDepth 1000000 in
set_option maxHeartbeats 20000000 in
theorem avS {i : Nat} (hK : KG vs n i 0 s A) (hi : i < 5) (hq : ∀ s' A',KG vs n (i + 1) 0 s' A'→s' 4 = 0→Q (some (.int (nI i))) (put 1 [((FieldType.array .int,vs.map Value.int) : FieldType × List Value)] s' A' [])) : M1 0 [.val (.ref 1),.val (.int (voF vs i)),.val (.int (vdF vs i)),.val (.int (vkF vs i))] [] (put 1 [((FieldType.array .int,vs.map Value.int) : FieldType × List Value)] s A []) Q:=by
  have e0:=hK.e0
  have b1:=(md_e (cel vs (1 + 3 * i)) (m:=4) (by decide) (by decide)).1
  have b2:=dl_b vs i
  have ev : voF vs i = nI (mdN (cel vs (1 + 3 * i)) 4):=rfl
  have ed : vdF vs i = nI (dlN vs i):=rfl
  have a1 : (nI (mdN (cel vs (1 + 3 * i)) 4) < 0) = False:=nnF (by omega)
  have a2 : (3 < nI (mdN (cel vs (1 + 3 * i)) 4)) = False:=lF (a:=3) (by omega) (by decide)
  have a3 : (nI (dlN vs i) < 0) = False:=nnF (by omega)
  have a4 : (15 < nI (dlN vs i)) = False:=lF (a:=15) (by omega) (by decide)
  have c5 : (nI i < 32) = True:=lT (c:=32) (by omega) (by decide)
  have q0:=in0 hK.ln (i:=i) (by omega)
  have q1:=in1 hK.ln (i:=i) (by omega)
  have q2:=in2 hK.ln (i:=i) (by omega)
  have en : nI (i + 1) - 1 = nI i:=nI_sub (c:=1) (by omega)
  have l0:=ln0 hK.ln
  have l1:=ln1 hK.ln
  have l2:=ln2 hK.ln
  rw [ev,ed]
  simp [a1,a2,a3,a4,e0,c5,q0,q1,q2,en,nI_1,own_k1_0,own_k1_1,own_k1_2,own_k1_3,nb0,nb1,ou_a,Option.toList_some,Option.toList_none,List.nil_append,List.cons_append]
  obtain ⟨_,k2,k3,k4,k5,k6,k7,k8,k9,k10,k11,k12⟩:=hK
  refine hq _ _ ⟨rfl,k2,by omega,k4,?_,fun e he => absurd he (by omega),?_,?_,?_,k10,k11,k12⟩ rfl
  · (repeat refine LN_ou ?_ (by simp only [setA_len]; exact k5 _)); exact k5
  · exact CF_stp k7 rfl (by omega) (by omega)
  · exact CF_stp k8 rfl (by omega) (by omega)
  · exact CF_stp k9 rfl (by omega) (by omega)
theorem aeS {j : Nat} (n0 : 0 < n) (n5 : n≤5) (hK : KG vs n n j s A) (hj : j < 10) (hq : ∀ s' A',KG vs n n (j + 1) s' A'→s' 4 = 0→Q (some (.int (nI j))) (put 1 [((FieldType.array .int,vs.map Value.int) : FieldType × List Value)] s' A' [])) : M2 0 [.val (.ref 1),.val (.int (nI (srN vs n j))),.val (.int (nI (dsN vs n j))),.val (.int (nI (rgN vs j)))] [] (put 1 [((FieldType.array .int,vs.map Value.int) : FieldType × List Value)] s A []) Q:=by
  have e0:=hK.e0
  have e1:=hK.e1
  have sd:=sdN vs n0 n5 j
  have rb:=rg_b vs j
  have a1 : (nI (srN vs n j) < 0) = False:=nnF (by omega)
  have a2 : (nI (srN vs n j) < nI n) = True:=lT sd.1 (by omega)
  have a3 : (nI (dsN vs n j) < 0) = False:=nnF (by omega)
  have a4 : (nI (dsN vs n j) < nI n) = True:=lT sd.2 (by omega)
  have a5 : (nI (rgN vs j) < 0) = False:=nnF (by omega)
  have a6 : (7 < nI (rgN vs j)) = False:=lF (a:=7) (by omega) (by decide)
  have c7 : (nI j < 64) = True:=lT (c:=64) (by omega) (by decide)
  have q3:=in3 hK.ln (i:=j) (by omega)
  have q4:=in4 hK.ln (i:=j) (by omega)
  have q5:=in5 hK.ln (i:=j) (by omega)
  have en : nI (j + 1) - 1 = nI j:=nI_sub (c:=1) (by omega)
  have l3:=ln3 hK.ln
  have l4:=ln4 hK.ln
  have l5:=ln5 hK.ln
  simp [a1,a2,a3,a4,a5,a6,e0,e1,c7,q3,q4,q5,en,nI_1,own_k2_0,own_k2_1,own_k2_2,own_k2_3,nb0,nb1,ou_a,Option.toList_some,Option.toList_none,List.nil_append,List.cons_append]
  obtain ⟨k1,_,k3,k4,k5,k6,k7,k8,k9,k10,k11,k12⟩:=hK
  refine hq _ _ ⟨k1,rfl,k3,by omega,?_,fun e he => ?_,k7,k8,k9,?_,?_,?_⟩ rfl
  · (repeat refine LN_ou ?_ (by simp only [setA_len]; exact k5 _)); exact k5
  · exact sdN vs n0 n5 e
  · exact CN_stp k10 rfl (by omega) (by omega)
  · exact CN_stp k11 rfl (by omega) (by omega)
  · exact CF_stp k12 rfl (by omega) (by omega)
theorem lwV (hlen : vs.length≤260) (n5 : n≤5) (hq : ∀ s' A',KG vs n n 0 s' A'→s' 4 = 0→M34 70 [.val (.ref 0),.val (.int (nI n)),.val (.ref 1),.val (.int (nI n)),.unset,.unset,.unset,.unset,.unset,.unset,.unset,.unset,.unset,.unset,.unset,.unset,.unset,.unset] [] (put 1 [((FieldType.array .int,vs.map Value.int) : FieldType × List Value)] s' A' []) Q) : ∀ (r i : Nat) (s : Nat→Int32) (A : Nat→List Int32),i + r = n→KG vs n i 0 s A→s 4 = 0→M34 22 [.val (.ref 0),.val (.int (nI n)),.val (.ref 1),.val (.int (nI i)),.unset,.unset,.unset,.unset,.unset,.unset,.unset,.unset,.unset,.unset,.unset,.unset,.unset,.unset] [] (put 1 [((FieldType.array .int,vs.map Value.int) : FieldType × List Value)] s A []) Q:=by
  intro r
  induction r with
  | zero =>
    intro i s A e hK s4
    obtain rfl : i = n:=by omega
    have c1 : (nI i < nI i) = False:=lF (by omega) (by omega)
    rw [m34_22]
    simp [c1,own_k34_0,own_k34_1,m34_47,m34_48,m34_49,m34_50,m34_51,m34_52,m34_55,m34_58,m34_59,m34_62,m34_63,m34_64,m34_67,m34_71,m34_73,own_k34_3,own_k34_4,own_k34_5,own_k34_6,own_k34_7,own_k34_8,own_k34_9,own_k34_10,own_k34_11,own_k34_12,own_k34_13,own_k34_14,own_k34_15,own_k34_16,own_k34_17,own_k34_18,own_k34_19,nb0,nb1,ou_a,Option.toList_some,Option.toList_none,List.nil_append,List.cons_append]
    exact hq s A hK s4
  | succ r ih =>
    intro i s A e hK s4
    have c1 : (nI i < nI n) = True:=lT (by omega) (by omega)
    have e1 : (1 : Int32) + nI (3 * i) = nI (1 + 3 * i):=nI_add 1 (3 * i)
    have e3 : (3 : Int32) + nI (3 * i) = nI (3 + 3 * i):=nI_add 3 (3 * i)
    rw [m34_22]
    simp [c1,nI_3m,e1,own_k34_0,own_k34_1,m34_47,m34_48,m34_49,m34_50,m34_51,m34_52,m34_55,m34_58,m34_59,m34_62,m34_63,m34_64,m34_67,m34_71,m34_73,own_k34_3,own_k34_4,own_k34_5,own_k34_6,own_k34_7,own_k34_8,own_k34_9,own_k34_10,own_k34_11,own_k34_12,own_k34_13,own_k34_14,own_k34_15,own_k34_16,own_k34_17,own_k34_18,own_k34_19,nb0,nb1,ou_a,Option.toList_some,Option.toList_none,List.nil_append,List.cons_append]
    refine cellW hlen (by omega) ?_
    simp [own_k34_0,own_k34_1,m34_47,m34_48,m34_49,m34_50,m34_51,m34_52,m34_55,m34_58,m34_59,m34_62,m34_63,m34_64,m34_67,m34_71,m34_73,own_k34_3,own_k34_4,own_k34_5,own_k34_6,own_k34_7,own_k34_8,own_k34_9,own_k34_10,own_k34_11,own_k34_12,own_k34_13,own_k34_14,own_k34_15,own_k34_16,own_k34_17,own_k34_18,own_k34_19,nb0,nb1,ou_a,Option.toList_some,Option.toList_none,List.nil_append,List.cons_append]
    refine modW (m:=4) (by decide) (by decide) ?_
    simp [own_k34_0,own_k34_1,m34_47,m34_48,m34_49,m34_50,m34_51,m34_52,m34_55,m34_58,m34_59,m34_62,m34_63,m34_64,m34_67,m34_71,m34_73,own_k34_3,own_k34_4,own_k34_5,own_k34_6,own_k34_7,own_k34_8,own_k34_9,own_k34_10,own_k34_11,own_k34_12,own_k34_13,own_k34_14,own_k34_15,own_k34_16,own_k34_17,own_k34_18,own_k34_19,nb0,nb1,ou_a,Option.toList_some,Option.toList_none,List.nil_append,List.cons_append]
    refine dlW hlen (by omega) ?_
    simp [nI_3m,e3,own_k34_0,own_k34_1,m34_47,m34_48,m34_49,m34_50,m34_51,m34_52,m34_55,m34_58,m34_59,m34_62,m34_63,m34_64,m34_67,m34_71,m34_73,own_k34_3,own_k34_4,own_k34_5,own_k34_6,own_k34_7,own_k34_8,own_k34_9,own_k34_10,own_k34_11,own_k34_12,own_k34_13,own_k34_14,own_k34_15,own_k34_16,own_k34_17,own_k34_18,own_k34_19,nb0,nb1,ou_a,Option.toList_some,Option.toList_none,List.nil_append,List.cons_append]
    refine cellW hlen (by omega) ?_
    simp [own_k34_0,own_k34_1,m34_47,m34_48,m34_49,m34_50,m34_51,m34_52,m34_55,m34_58,m34_59,m34_62,m34_63,m34_64,m34_67,m34_71,m34_73,own_k34_3,own_k34_4,own_k34_5,own_k34_6,own_k34_7,own_k34_8,own_k34_9,own_k34_10,own_k34_11,own_k34_12,own_k34_13,own_k34_14,own_k34_15,own_k34_16,own_k34_17,own_k34_18,own_k34_19,nb0,nb1,ou_a,Option.toList_some,Option.toList_none,List.nil_append,List.cons_append]
    refine avS hK (by omega) (fun s' A' hK' s4' => ?_)
    simp [nI_1,own_k34_0,own_k34_1,m34_47,m34_48,m34_49,m34_50,m34_51,m34_52,m34_55,m34_58,m34_59,m34_62,m34_63,m34_64,m34_67,m34_71,m34_73,own_k34_3,own_k34_4,own_k34_5,own_k34_6,own_k34_7,own_k34_8,own_k34_9,own_k34_10,own_k34_11,own_k34_12,own_k34_13,own_k34_14,own_k34_15,own_k34_16,own_k34_17,own_k34_18,own_k34_19,nb0,nb1,ou_a,Option.toList_some,Option.toList_none,List.nil_append,List.cons_append]
    exact ih (i + 1) s' A' (by omega) hK' s4'
theorem lwE (hlen : vs.length≤260) (n0 : 0 < n) (n5 : n≤5) (m10 : m≤10) (hq : ∀ w s' A',KG vs n n m s' A'→s' 4 = 0→ZM w m (fun e => decide (rgN vs e = 0))→M34 149 [.val (.ref 0),.val (.int (nI n)),.val (.ref 1),.val (.int (nI m)),.val (.long w),.second,.val (.int (nI m)),.unset,.unset,.unset,.unset,.unset,.unset,.unset,.unset,.unset,.unset,.unset] [] (put 1 [((FieldType.array .int,vs.map Value.int) : FieldType × List Value)] s' A' []) Q) : ∀ (r j : Nat) (w : Int64) (s : Nat→Int32) (A : Nat→List Int32),j + r = m→KG vs n n j s A→s 4 = 0→ZM w j (fun e => decide (rgN vs e = 0))→M34 88 [.val (.ref 0),.val (.int (nI n)),.val (.ref 1),.val (.int (nI m)),.val (.long w),.second,.val (.int (nI j)),.unset,.unset,.unset,.unset,.unset,.unset,.unset,.unset,.unset,.unset,.unset] [] (put 1 [((FieldType.array .int,vs.map Value.int) : FieldType × List Value)] s A []) Q:=by
  intro r
  induction r with
  | zero =>
    intro j w s A e hK s4 hz
    obtain rfl : j = m:=by omega
    have c1 : (nI j < nI j) = False:=lF (by omega) (by omega)
    rw [m34_88]
    simp [c1,own_k34_0,own_k34_1,own_k34_2,own_k34_3,own_k34_4,m34_120,m34_123,m34_124,m34_125,m34_126,m34_128,m34_131,m34_134,m34_136,m34_137,m34_139,m34_140,m34_141,m34_143,m34_146,own_k34_6,own_k34_7,own_k34_8,own_k34_9,own_k34_10,own_k34_11,own_k34_12,own_k34_13,own_k34_14,own_k34_15,own_k34_16,own_k34_17,own_k34_18,own_k34_19,nb0,nb1,ou_a,Option.toList_some,Option.toList_none,List.nil_append,List.cons_append]
    exact hq w s A hK s4 hz
  | succ r ih =>
    intro j w s A e hK s4 hz
    have c1 : (nI j < nI m) = True:=lT (by omega) (by omega)
    have rb:=rg_b vs j
    rw [m34_88]
    simp [c1,own_k34_0,own_k34_1,own_k34_2,own_k34_3,own_k34_4,m34_120,m34_123,m34_124,m34_125,m34_126,m34_128,m34_131,m34_134,m34_136,m34_137,m34_139,m34_140,m34_141,m34_143,m34_146,own_k34_6,own_k34_7,own_k34_8,own_k34_9,own_k34_10,own_k34_11,own_k34_12,own_k34_13,own_k34_14,own_k34_15,own_k34_16,own_k34_17,own_k34_18,own_k34_19,nb0,nb1,ou_a,Option.toList_some,Option.toList_none,List.nil_append,List.cons_append]
    refine srW hlen (by omega) n0 n5 ?_
    simp [own_k34_0,own_k34_1,own_k34_2,own_k34_3,own_k34_4,m34_120,m34_123,m34_124,m34_125,m34_126,m34_128,m34_131,m34_134,m34_136,m34_137,m34_139,m34_140,m34_141,m34_143,m34_146,own_k34_6,own_k34_7,own_k34_8,own_k34_9,own_k34_10,own_k34_11,own_k34_12,own_k34_13,own_k34_14,own_k34_15,own_k34_16,own_k34_17,own_k34_18,own_k34_19,nb0,nb1,ou_a,Option.toList_some,Option.toList_none,List.nil_append,List.cons_append]
    refine dsW hlen (by omega) n0 n5 ?_
    simp [own_k34_0,own_k34_1,own_k34_2,own_k34_3,own_k34_4,m34_120,m34_123,m34_124,m34_125,m34_126,m34_128,m34_131,m34_134,m34_136,m34_137,m34_139,m34_140,m34_141,m34_143,m34_146,own_k34_6,own_k34_7,own_k34_8,own_k34_9,own_k34_10,own_k34_11,own_k34_12,own_k34_13,own_k34_14,own_k34_15,own_k34_16,own_k34_17,own_k34_18,own_k34_19,nb0,nb1,ou_a,Option.toList_some,Option.toList_none,List.nil_append,List.cons_append]
    refine rgW hlen (by omega) ?_
    simp [own_k34_0,own_k34_1,own_k34_2,own_k34_3,own_k34_4,m34_120,m34_123,m34_124,m34_125,m34_126,m34_128,m34_131,m34_134,m34_136,m34_137,m34_139,m34_140,m34_141,m34_143,m34_146,own_k34_6,own_k34_7,own_k34_8,own_k34_9,own_k34_10,own_k34_11,own_k34_12,own_k34_13,own_k34_14,own_k34_15,own_k34_16,own_k34_17,own_k34_18,own_k34_19,nb0,nb1,ou_a,Option.toList_some,Option.toList_none,List.nil_append,List.cons_append]
    refine aeS n0 n5 hK (by omega) (fun s' A' hK' s4' => ?_)
    simp [own_k34_0,own_k34_1,own_k34_2,own_k34_3,own_k34_4,m34_120,m34_123,m34_124,m34_125,m34_126,m34_128,m34_131,m34_134,m34_136,m34_137,m34_139,m34_140,m34_141,m34_143,m34_146,own_k34_6,own_k34_7,own_k34_8,own_k34_9,own_k34_10,own_k34_11,own_k34_12,own_k34_13,own_k34_14,own_k34_15,own_k34_16,own_k34_17,own_k34_18,own_k34_19,nb0,nb1,ou_a,Option.toList_some,Option.toList_none,List.nil_append,List.cons_append]
    refine rgW hlen (by omega) ?_
    by_cases y : rgN vs j = 0
    · have y1 : (nI (rgN vs j) = 0) = True:=eT (c:=0) y
      simp [y1,nI_1,own_k34_0,own_k34_1,own_k34_2,own_k34_3,own_k34_4,m34_120,m34_123,m34_124,m34_125,m34_126,m34_128,m34_131,m34_134,m34_136,m34_137,m34_139,m34_140,m34_141,m34_143,m34_146,own_k34_6,own_k34_7,own_k34_8,own_k34_9,own_k34_10,own_k34_11,own_k34_12,own_k34_13,own_k34_14,own_k34_15,own_k34_16,own_k34_17,own_k34_18,own_k34_19,nb0,nb1,ou_a,Option.toList_some,Option.toList_none,List.nil_append,List.cons_append]
      exact ih (j + 1) _ s' A' (by omega) hK' s4' (ZM_s hz (by omega) (by simp [y]))
    · have y1 : (nI (rgN vs j) = 0) = False:=eF (c:=0) y (by omega) (by decide)
      simp [y1,nI_1,own_k34_0,own_k34_1,own_k34_2,own_k34_3,own_k34_4,m34_120,m34_123,m34_124,m34_125,m34_126,m34_128,m34_131,m34_134,m34_136,m34_137,m34_139,m34_140,m34_141,m34_143,m34_146,own_k34_6,own_k34_7,own_k34_8,own_k34_9,own_k34_10,own_k34_11,own_k34_12,own_k34_13,own_k34_14,own_k34_15,own_k34_16,own_k34_17,own_k34_18,own_k34_19,nb0,nb1,ou_a,Option.toList_some,Option.toList_none,List.nil_append,List.cons_append]
      exact ih (j + 1) w s' A' (by omega) hK' s4' (ZM_n hz (by simp [y]))
set_option maxRecDepth 1000000 in
set_option maxHeartbeats 20000000 in
theorem lwN {p : Nat} (hlen : vs.length≤260) (n0 : 0 < n) (n5 : n≤5) (m10 : m≤10) (hK : KG vs n n m s A) (hR : KR n m (vdF vs) (reF vs) (srN vs n) (dsN vs n) s A) (xN : ∀ e,e < m→0≤((cX n m (vdF vs) (reF vs) (srN vs n) (dsN vs n)) e).toInt) (hq : ∀ w l11,okS l11→ZM w m (fun e => decide ((cX n m (vdF vs) (reF vs) (srN vs n) (dsN vs n)) e = 0))→M34 330 [.val (.ref 0),.val (.int (nI n)),.val (.ref 1),.val (.int (nI m)),l4,l5,.val (.int (nI p)),l7,.val (.long w),.second,.val (.int (nI m)),l11,.unset,.unset,.unset,.unset,.unset,.unset] [] (put 1 [((FieldType.array .int,vs.map Value.int) : FieldType × List Value)] s A []) Q) : ∀ (r e : Nat) (w : Int64) (l11 : Slot),e + r = m→okS l11→ZM w e (fun e => decide ((cX n m (vdF vs) (reF vs) (srN vs n) (dsN vs n)) e = 0))→M34 254 [.val (.ref 0),.val (.int (nI n)),.val (.ref 1),.val (.int (nI m)),l4,l5,.val (.int (nI p)),l7,.val (.long w),.second,.val (.int (nI e)),l11,.unset,.unset,.unset,.unset,.unset,.unset] [] (put 1 [((FieldType.array .int,vs.map Value.int) : FieldType × List Value)] s A []) Q:=by
  obtain ⟨_,hT,s4,s5,s6,s7,x6,g13,r9⟩:=hR
  have e0:=hK.e0
  have e1:=hK.e1
  intro r
  induction r with
  | zero =>
    intro e w l11 er o11 hz
    obtain rfl : e = m:=by omega
    have c1 : (nI e < nI e) = False:=lF (by omega) (by omega)
    rw [m34_254]
    simp [c1,own_k34_0,own_k34_1,own_k34_2,own_k34_3,own_k34_4,own_k34_5,own_k34_6,own_k34_7,own_k34_8,own_k34_9,own_k34_10,own_k34_11,m34_312,m34_315,m34_317,m34_318,m34_320,m34_321,m34_322,m34_324,m34_327,m34_331,m34_332,m34_333,m34_335,m34_338,m34_340,own_k34_13,own_k34_14,own_k34_15,own_k34_16,own_k34_17,own_k34_18,own_k34_19,nb0,nb1,ou_a,Option.toList_some,Option.toList_none,List.nil_append,List.cons_append]
    exact hq w _ o11 hz
  | succ r ih =>
    intro e w l11 er o11 hz
    have c1 : (nI e < nI m) = True:=lT (by omega) (by omega)
    have c2 : (nI e < 0) = False:=nnF (by omega)
    have sd:=sdN vs n0 n5 e
    have q6:=in6 hK.ln (i:=e) (by omega)
    have v6:=x6 e (by omega)
    have a1 : (nI (srN vs n e) < 0) = False:=nnF (by omega)
    have a2 : (nI (srN vs n e) < nI n) = True:=lT sd.1 (by omega)
    have a3 : (nI (dsN vs n e) < 0) = False:=nnF (by omega)
    have a4 : (nI (dsN vs n e) < nI n) = True:=lT sd.2 (by omega)
    have qa:=in13 hK.ln (i:=srN vs n e) (by omega)
    have qb:=in13 hK.ln (i:=dsN vs n e) (by omega)
    have va:=g13 _ sd.1
    have vb:=g13 _ sd.2
    have nx : ((cX n m (vdF vs) (reF vs) (srN vs n) (dsN vs n)) e < 0) = False:=eq_false (by rw [nn_i]; exact xN e (by omega))
    have ex : nI (rgN vs e) + lagF (cD n m (vdF vs) (reF vs) (srN vs n) (dsN vs n)) (dsN vs n e) - lagF (cD n m (vdF vs) (reF vs) (srN vs n) (dsN vs n)) (srN vs n e) = (cX n m (vdF vs) (reF vs) (srN vs n) (dsN vs n)) e:=rfl
    rw [m34_254]
    obtain ⟨x,hx⟩ : ∃ x,x = (cX n m (vdF vs) (reF vs) (srN vs n) (dsN vs n)) e:=⟨_,rfl⟩
    rw [← hx] at v6 nx ex
    generalize lagF (cD n m (vdF vs) (reF vs) (srN vs n) (dsN vs n)) (dsN vs n e) = lb at *
    generalize lagF (cD n m (vdF vs) (reF vs) (srN vs n) (dsN vs n)) (srN vs n e) = la at *
    simp [c1,c2,s4,e0,e1,q6,v6,nx,o11,own_k14_0,own_k15_0,own_k16_0,own_k17_0,own_k18_0,own_k19_0,m19_30,m19_31,own_k34_0,own_k34_1,own_k34_2,own_k34_3,own_k34_4,own_k34_5,own_k34_6,own_k34_7,own_k34_8,own_k34_9,own_k34_10,own_k34_11,m34_312,m34_315,m34_317,m34_318,m34_320,m34_321,m34_322,m34_324,m34_327,m34_331,m34_332,m34_333,m34_335,m34_338,m34_340,own_k34_13,own_k34_14,own_k34_15,own_k34_16,own_k34_17,own_k34_18,own_k34_19,nb0,nb1,ou_a,Option.toList_some,Option.toList_none,List.nil_append,List.cons_append]
    refine rgW hlen (by omega) ?_
    simp [own_k34_0,own_k34_1,own_k34_2,own_k34_3,own_k34_4,own_k34_5,own_k34_6,own_k34_7,own_k34_8,own_k34_9,own_k34_10,own_k34_11,m34_312,m34_315,m34_317,m34_318,m34_320,m34_321,m34_322,m34_324,m34_327,m34_331,m34_332,m34_333,m34_335,m34_338,m34_340,own_k34_13,own_k34_14,own_k34_15,own_k34_16,own_k34_17,own_k34_18,own_k34_19,nb0,nb1,ou_a,Option.toList_some,Option.toList_none,List.nil_append,List.cons_append]
    refine dsW hlen (by omega) n0 n5 ?_
    simp [s4,e0,a3,a4,qb,vb,own_k14_0,own_k15_0,own_k16_0,own_k17_0,own_k18_0,own_k19_0,m19_30,m19_31,own_k34_0,own_k34_1,own_k34_2,own_k34_3,own_k34_4,own_k34_5,own_k34_6,own_k34_7,own_k34_8,own_k34_9,own_k34_10,own_k34_11,m34_312,m34_315,m34_317,m34_318,m34_320,m34_321,m34_322,m34_324,m34_327,m34_331,m34_332,m34_333,m34_335,m34_338,m34_340,own_k34_13,own_k34_14,own_k34_15,own_k34_16,own_k34_17,own_k34_18,own_k34_19,nb0,nb1,ou_a,Option.toList_some,Option.toList_none,List.nil_append,List.cons_append]
    refine srW hlen (by omega) n0 n5 ?_
    by_cases y : x = 0
    · rw [y] at hx ex
      rw [y]
      simp [s4,e0,a1,a2,qa,va,ex,nI_1,own_k14_0,own_k15_0,own_k16_0,own_k17_0,own_k18_0,own_k19_0,m19_30,m19_31,own_k34_0,own_k34_1,own_k34_2,own_k34_3,own_k34_4,own_k34_5,own_k34_6,own_k34_7,own_k34_8,own_k34_9,own_k34_10,own_k34_11,m34_312,m34_315,m34_317,m34_318,m34_320,m34_321,m34_322,m34_324,m34_327,m34_331,m34_332,m34_333,m34_335,m34_338,m34_340,own_k34_13,own_k34_14,own_k34_15,own_k34_16,own_k34_17,own_k34_18,own_k34_19,nb0,nb1,ou_a,Option.toList_some,Option.toList_none,List.nil_append,List.cons_append]
      exact ih (e + 1) _ _ (by omega) (okS_i _) (ZM_s hz (by omega) (decide_eq_true hx.symm))
    · simp [s4,e0,a1,a2,qa,va,ex,y,nI_1,own_k14_0,own_k15_0,own_k16_0,own_k17_0,own_k18_0,own_k19_0,m19_30,m19_31,own_k34_0,own_k34_1,own_k34_2,own_k34_3,own_k34_4,own_k34_5,own_k34_6,own_k34_7,own_k34_8,own_k34_9,own_k34_10,own_k34_11,m34_312,m34_315,m34_317,m34_318,m34_320,m34_321,m34_322,m34_324,m34_327,m34_331,m34_332,m34_333,m34_335,m34_338,m34_340,own_k34_13,own_k34_14,own_k34_15,own_k34_16,own_k34_17,own_k34_18,own_k34_19,nb0,nb1,ou_a,Option.toList_some,Option.toList_none,List.nil_append,List.cons_append]
      exact ih (e + 1) w _ (by omega) (okS_i _) (ZM_n hz (decide_eq_false (fun q => y (hx.trans q))))
abbrev rcF (vs : List Int32) (n m : Nat) : Nat→Nat→Bool:=fun u v => (cR n m (vdF vs) (reF vs) (srN vs n) (dsN vs n)).1 (u * 32 + v)
abbrev wF (vs : List Int32) (n m : Nat) : Nat→Nat→Nat:=fun u v => ((cR n m (vdF vs) (reF vs) (srN vs n) (dsN vs n)).2.1 (u * 32 + v)).toInt.toNat
abbrev dF (vs : List Int32) (n m : Nat) : Nat→Nat→Nat:=fun u v => ((cR n m (vdF vs) (reF vs) (srN vs n) (dsN vs n)).2.2 (u * 32 + v)).toInt.toNat + dlN vs v
def BDF (vs : List Int32) (n m : Nat) : Prop:=∀ u v,u < n→v < n→(cR n m (vdF vs) (reF vs) (srN vs n) (dsN vs n)).1 (u * 32 + v) = true→0≤((cR n m (vdF vs) (reF vs) (srN vs n) (dsN vs n)).2.1 (u * 32 + v)).toInt∧((cR n m (vdF vs) (reF vs) (srN vs n) (dsN vs n)).2.1 (u * 32 + v)).toInt≤231∧0≤((cR n m (vdF vs) (reF vs) (srN vs n) (dsN vs n)).2.2 (u * 32 + v)).toInt∧((cR n m (vdF vs) (reF vs) (srN vs n) (dsN vs n)).2.2 (u * 32 + v)).toInt≤200000
set_option maxRecDepth 1000000 in
set_option maxHeartbeats 20000000 in
theorem LpB (hlen : vs.length≤260) (n0 : 0 < n) (n5 : n≤5) (m10 : m≤10) {w : Int64} {x : Nat→Int32} {sx : (Nat→Int32) × Int32} {g : Nat→Nat} (hP : PEF n m (vdF vs) x (srN vs n) (dsN vs n) sx g) (hz : ∀ e,e < m→(ZB w e = true ↔ x e = 0)) (hq : Q (some (.int sx.2)) (put 1 [((FieldType.array .int,vs.map Value.int) : FieldType × List Value)] s A [])) : M29 0 [.val (.ref 0),.val (.int (nI n)),.val (.int (nI m)),.val (.long w),.second,.unset,.unset,.unset,.unset,.unset,.unset,.unset,.unset,.unset,.unset] [] (put 1 [((FieldType.array .int,vs.map Value.int) : FieldType × List Value)] s A []) Q:=by
  have sdm : ∀ e,e < m→srN vs n e < n∧dsN vs n e < n:=fun e _ => sdN vs n0 n5 e
  have L:=LF_of (del:=dlN vs) hP (fun v _ => vd_i vs v) sdm hz
  refine LpW hlen n0 n5 m10 (fun no => absurd L (no _ _ _)) (fun k f hk hb hJ hs => ?_)
  have d:=PE_d L sdm (by omega) (hJ _ _ _ L) (fun v hv => (hb v hv).1) hs
  rw [mx_ext n d,mx_b L]
  have e : nI sx.2.toInt.toNat = sx.2:=Int32.toInt_inj.mp (by
    have:=hP.2.2.2.2.1
    have:=hP.2.2.2.2.2.1
    rw [nI_int (by omega)]
    omega)
  rw [e]
  exact hq
theorem LpN (hlen : vs.length≤260) (n0 : 0 < n) (n5 : n≤5) (m10 : m≤10) {w : Int64} {o : Nat→Nat} (hT : (topo n m (reF vs) (srN vs n) (dsN vs n) o).2 ≠ n) (hz : ∀ e,e < m→(ZB w e = true ↔ reF vs e = 0)) (hq : Q (some (.int (-1))) (put 1 [((FieldType.array .int,vs.map Value.int) : FieldType × List Value)] s A [])) : M29 0 [.val (.ref 0),.val (.int (nI n)),.val (.int (nI m)),.val (.long w),.second,.unset,.unset,.unset,.unset,.unset,.unset,.unset,.unset,.unset,.unset] [] (put 1 [((FieldType.array .int,vs.map Value.int) : FieldType × List Value)] s A []) Q:=by
  have sdm : ∀ e,e < m→srN vs n e < n∧dsN vs n e < n:=fun e _ => sdN vs n0 n5 e
  refine LpW hlen n0 n5 m10 (fun _ => hq) (fun k f hk hb hJ hs => ?_)
  refine absurd (topo_full (by omega) (by omega) sdm o (key:=fun v => (f v : Int)) (fun v hv => ?_) (fun e he hx => ?_)) hT
  · have:=hb v hv
    show (-1000000 : Int)≤(f v : Int)∧(f v : Int)≤100000000
    omega
  · have:=hs e he ((hz e he).mpr hx)
    unfold ce1 at this
    show (f (srN vs n e) : Int) < (f (dsN vs n e) : Int)
    omega
set_option maxRecDepth 1000000 in
set_option maxHeartbeats 20000000 in
theorem lwP {g : Nat→Nat} {u : Nat} {sp : Int64} {F : Nat→Nat} (hlen : vs.length≤260) (n0 : 0 < n) (n5 : n≤5) (m10 : m≤10) (hK : KG vs n n m s A) (hR : KR n m (vdF vs) (reF vs) (srN vs n) (dsN vs n) s A) (hS : ∀ u,u < n→SP n m u (srN vs n) (dsN vs n) (rgN vs) (dlN vs) (rcF vs n m u) (wF vs n m u) (dF vs n m u)) (hB : B5 n m (srN vs n) (dsN vs n) (rgN vs) (dlN vs) g) (bd : BDF vs n m) (hu : u < n) (hsp : PK 12 sp n F) (hF : ∀ v,v < n→(rcF vs n m u v = true→F v = co (wF vs n m u) (dF vs n m u) v)∧(rcF vs n m u v = false→F v = 4095)) (hq : ∀ l14 l15 l16 l17,okS l14→okS l15→okS l16→okS l17→M34 470 [.val (.ref 0),.val (.int (nI n)),.val (.ref 1),.val (.int (nI m)),l4,l5,l6,l7,l8,l9,.val (.int (nI u)),.val (.long sp),.second,.val (.int (nI n)),l14,l15,l16,l17] [] (put 1 [((FieldType.array .int,vs.map Value.int) : FieldType × List Value)] s A []) Q) : ∀ (r v : Nat) (l14 l15 l16 l17 : Slot),v + r = n→okS l14→okS l15→okS l16→okS l17→M34 367 [.val (.ref 0),.val (.int (nI n)),.val (.ref 1),.val (.int (nI m)),l4,l5,l6,l7,l8,l9,.val (.int (nI u)),.val (.long sp),.second,.val (.int (nI v)),l14,l15,l16,l17] [] (put 1 [((FieldType.array .int,vs.map Value.int) : FieldType × List Value)] s A []) Q:=by
  obtain ⟨_,hT,s4,s5,s6,s7,x6,g13,r9⟩:=hR
  have e0:=hK.e0
  intro r
  induction r with
  | zero =>
    intro v l14 l15 l16 l17 e o14 o15 o16 o17
    obtain rfl : v = n:=by omega
    have c1 : (nI v < nI v) = False:=lF (by omega) (by omega)
    rw [m34_367]
    simp [c1,own_k34_0,own_k34_1,own_k34_2,own_k34_3,own_k34_4,own_k34_5,own_k34_6,own_k34_7,own_k34_8,own_k34_9,own_k34_10,own_k34_11,own_k34_12,own_k34_13,own_k34_14,own_k34_15,own_k34_16,own_k34_17,m34_448,m34_451,m34_453,m34_454,m34_455,m34_456,m34_458,m34_459,m34_462,m34_463,m34_464,m34_467,m34_473,m34_476,m34_477,own_k34_19,nb0,nb1,ou_a,Option.toList_some,Option.toList_none,List.nil_append,List.cons_append]
    exact hq _ _ _ _ o14 o15 o16 o17
  | succ r ih =>
    intro v l14 l15 l16 l17 e o14 o15 o16 o17
    have hv : v < n:=by omega
    have c1 : (nI v < nI n) = True:=lT (by omega) (by omega)
    have c2 : (nI u < nI n) = True:=lT hu (by omega)
    have c3 : (nI u < 0) = False:=nnF (by omega)
    have c4 : (nI v < 0) = False:=nnF (by omega)
    have gs : gf sp (nI v) 12 = nI (F v):=hsp _ hv
    have q11:=in11 hK.ln (i:=u * 32 + v) (by omega)
    have q9:=in9 hK.ln (i:=u * 32 + v) (by omega)
    have q10:=in10 hK.ln (i:=u * 32 + v) (by omega)
    have q1:=in1 hK.ln (i:=v) (by omega)
    have v1 : getA (A 1) (nI v) = nI (dlN vs v):=hK.vd v hv
    obtain ⟨r1,r2⟩:=r9 u v hu hv
    rw [m34_367]
    cases z : rcF vs n m u v with
    | false =>
      have f0:=(hF v hv).2 z
      have z1 : (nI (F v) = 4095) = True:=eT (c:=4095) f0
      have z' : (cR n m (vdF vs) (reF vs) (srN vs n) (dsN vs n)).1 (u * 32 + v) = false:=z
      rw [z'] at r1
      have r1' : getA (A 11) (nI (u * 32 + v)) = 0:=r1
      simp [c1,c2,c3,c4,s4,e0,getW,gs,z1,q11,r1',nI_32,nI_add,nI_1,o14,o15,o16,own_k20_0,m20_23,m20_24,own_k21_0,own_k21_1,own_k22_0,own_k22_1,own_k34_0,own_k34_1,own_k34_2,own_k34_3,own_k34_4,own_k34_5,own_k34_6,own_k34_7,own_k34_8,own_k34_9,own_k34_10,own_k34_11,own_k34_12,own_k34_13,own_k34_14,own_k34_15,own_k34_16,own_k34_17,m34_448,m34_451,m34_453,m34_454,m34_455,m34_456,m34_458,m34_459,m34_462,m34_463,m34_464,m34_467,m34_473,m34_476,m34_477,own_k34_19,nb0,nb1,ou_a,Option.toList_some,Option.toList_none,List.nil_append,List.cons_append]
      exact ih (v + 1) _ _ _ _ (by omega) (okS_n _) (okS_i _) (okS_i _) o17
    | true =>
      have f0:=(hF v hv).1 z
      have z' : (cR n m (vdF vs) (reF vs) (srN vs n) (dsN vs n)).1 (u * 32 + v) = true:=z
      obtain ⟨k1,k2,k3,k4,k5⟩:=co_d (hS u hu) hB hv z
      have k6:=(hS u hu).b5 hB hv z
      rw [← f0] at k1 k2 k3 k4 k5
      obtain ⟨b1,b2,b3,b4⟩:=bd u v hu hv z'
      obtain ⟨r3,r4⟩:=r2 z'
      rw [z'] at r1
      have r1' : getA (A 11) (nI (u * 32 + v)) = 1:=r1
      have w1 : getA (A 9) (nI (u * 32 + v)) = nI (wF vs n m u v):=r3.trans (Int32.toInt_inj.mp (by
        show ((cR n m (vdF vs) (reF vs) (srN vs n) (dsN vs n)).2.1 (u * 32 + v)).toInt = (nI ((cR n m (vdF vs) (reF vs) (srN vs n) (dsN vs n)).2.1 (u * 32 + v)).toInt.toNat).toInt
        rw [nI_int (by omega)]; omega))
      have d1 : getA (A 10) (nI (u * 32 + v)) = nI ((cR n m (vdF vs) (reF vs) (srN vs n) (dsN vs n)).2.2 (u * 32 + v)).toInt.toNat:=r4.trans (Int32.toInt_inj.mp (by rw [nI_int (by omega)]; omega))
      have d2 : nI ((cR n m (vdF vs) (reF vs) (srN vs n) (dsN vs n)).2.2 (u * 32 + v)).toInt.toNat + nI (dlN vs v) = nI (dF vs n m u v):=nI_add _ _
      generalize wF vs n m u v = Wv at *
      generalize dF vs n m u v = Dv at *
      generalize nI ((cR n m (vdF vs) (reF vs) (srN vs n) (dsN vs n)).2.2 (u * 32 + v)).toInt.toNat = X at *
      have z1 : (nI (F v) = 4095) = False:=eF (c:=4095) (by omega) (by omega) (by decide)
      have e1 : nI (F v + 127) / 128 = nI (Wv + 1):=(nI_div (c:=128) (by omega) (by decide)).trans (by rw [k3])
      have e2 : nI (Wv + 1) - 1 = nI Wv:=nI_sub (c:=1) (by omega)
      have e3 : nI (128 * (Wv + 1)) - nI (F v) = nI Dv:=(nI_sub (by omega)).trans (by rw [k4])
      simp [c1,c2,c3,c4,s4,e0,getW,gs,z1,q11,r1',q9,w1,q10,d1,q1,v1,d2,e1,e2,e3,nI_127,nI_128m,nI_32,nI_add,nI_1,o14,o15,o16,o17,own_k20_0,m20_23,m20_24,own_k21_0,own_k21_1,own_k22_0,own_k22_1,own_k34_0,own_k34_1,own_k34_2,own_k34_3,own_k34_4,own_k34_5,own_k34_6,own_k34_7,own_k34_8,own_k34_9,own_k34_10,own_k34_11,own_k34_12,own_k34_13,own_k34_14,own_k34_15,own_k34_16,own_k34_17,m34_448,m34_451,m34_453,m34_454,m34_455,m34_456,m34_458,m34_459,m34_462,m34_463,m34_464,m34_467,m34_473,m34_476,m34_477,own_k34_19,nb0,nb1,ou_a,Option.toList_some,Option.toList_none,List.nil_append,List.cons_append]
      exact ih (v + 1) _ _ _ _ (by omega) (okS_n _) (okS_n _) (okS_n _) (okS_n _)
theorem lwU {g : Nat→Nat} {p : Nat} (hlen : vs.length≤260) (n0 : 0 < n) (n5 : n≤5) (m10 : m≤10) (hK : KG vs n n m s A) (hR : KR n m (vdF vs) (reF vs) (srN vs n) (dsN vs n) s A) (hS : ∀ u,u < n→SP n m u (srN vs n) (dsN vs n) (rgN vs) (dlN vs) (rcF vs n m u) (wF vs n m u) (dF vs n m u)) (hB : B5 n m (srN vs n) (dsN vs n) (rgN vs) (dlN vs) g) (bd : BDF vs n m) (hp : p≤480) (h4 : p = 0 ∨ (feas n m (reF vs) (vdF vs) (srN vs n) (dsN vs n) (cR n m (vdF vs) (reF vs) (srN vs n) (dsN vs n)) (nI (p - 1))).2 = false) (hF : Q (some (.int 1)) (put 1 [((FieldType.array .int,vs.map Value.int) : FieldType × List Value)] s A [])) : ∀ (r u : Nat) (l11 l12 l13 l14 l15 l16 l17 : Slot),u + r = n→okP l11 l12→okS l13→okS l14→okS l15→okS l16→okS l17→M34 348 [.val (.ref 0),.val (.int (nI n)),.val (.ref 1),.val (.int (nI m)),l4,l5,.val (.int (nI p)),l7,l8,l9,.val (.int (nI u)),l11,l12,l13,l14,l15,l16,l17] [] (put 1 [((FieldType.array .int,vs.map Value.int) : FieldType × List Value)] s A []) Q:=by
  intro r
  induction r with
  | zero =>
    intro u l11 l12 l13 l14 l15 l16 l17 e o11 o13 o14 o15 o16 o17
    have c1 : (nI u < nI n) = False:=lF (by omega) (by omega)
    rw [m34_348]
    simp [c1,own_k34_0,own_k34_1,own_k34_2,own_k34_3,own_k34_4,own_k34_5,own_k34_6,own_k34_7,own_k34_8,own_k34_9,own_k34_10,own_k34_11,own_k34_12,own_k34_13,own_k34_14,own_k34_15,own_k34_16,own_k34_17,own_k34_18,own_k34_19,nb0,nb1,ou_a,Option.toList_some,Option.toList_none,List.nil_append,List.cons_append]
    have ci : (nI p - 1).toInt = (p : Int) - 1:=by
      have e1 : (nI p).toInt = p:=nI_int (by omega)
      have:=sub_i (a:=nI p) (b:=1) (by rw [e1,i_1]; omega) (by rw [e1,i_1]; omega)
      rw [this,e1,i_1]
    refine LfW (c:=nI p - 1) hlen n0 n5 m10 hS hB (fun f hf => ?_) ?_
    · exfalso
      rw [ci] at hf
      have h0:=hS 0 n0
      have h00 : (cR n m (vdF vs) (reF vs) (srN vs n) (dsN vs n)).1 (0 * 32 + 0) = true:=h0.1.1
      have b0:=bd 0 0 n0 n0 h00
      have h01 : ((cR n m (vdF vs) (reF vs) (srN vs n) (dsN vs n)).2.1 (0 * 32 + 0)).toInt.toNat = 0:=h0.1.2.1
      exact fe_no (del:=dlN vs) (rg:=rgN vs) n0 (by omega) (fun e _ => sdN vs n0 n5 e) (fun v _ => ⟨vd_i vs v,dl_b vs v⟩) (fun e _ => ⟨re_i vs e,rg_b vs e⟩) hp bd ⟨h00,by omega⟩ h4 hf
    · simp [own_k34_0,own_k34_1,own_k34_2,own_k34_3,own_k34_4,own_k34_5,own_k34_6,own_k34_7,own_k34_8,own_k34_9,own_k34_10,own_k34_11,own_k34_12,own_k34_13,own_k34_14,own_k34_15,own_k34_16,own_k34_17,own_k34_18,own_k34_19,nb0,nb1,ou_a,Option.toList_some,Option.toList_none,List.nil_append,List.cons_append]
      exact hF
  | succ r ih =>
    intro u l11 l12 l13 l14 l15 l16 l17 e o11 o13 o14 o15 o16 o17
    have c1 : (nI u < nI n) = True:=lT (by omega) (by omega)
    rw [m34_348]
    simp [c1,own_k34_0,own_k34_1,own_k34_2,own_k34_3,own_k34_4,own_k34_5,own_k34_6,own_k34_7,own_k34_8,own_k34_9,own_k34_10,own_k34_11,own_k34_12,own_k34_13,own_k34_14,own_k34_15,own_k34_16,own_k34_17,own_k34_18,own_k34_19,nb0,nb1,ou_a,Option.toList_some,Option.toList_none,List.nil_append,List.cons_append]
    refine ssW hlen n0 n5 m10 (hS u (by omega)) hB (by omega) (fun sp F hsp hF => ?_)
    have st:=own_Llaw_362 (H:=(put 1 [((FieldType.array .int,vs.map Value.int) : FieldType × List Value)] s A [])) (Q:=Q) (st:=[]) (J1:=sp) (l0:=.val (.ref 0)) (l1:=.val (.int (nI n))) (l2:=.val (.ref 1)) (l3:=.val (.int (nI m))) (l4:=l4) (l5:=l5) (l6:=.val (.int (nI p))) (l7:=l7) (l8:=l8) (l9:=l9) (l10:=.val (.int (nI u))) (l13:=l13) (l14:=l14) (l15:=l15) (l16:=l16) (l17:=l17) o11
    show M34 362 _ [.long sp] _ _
    rw [st]
    simp [o13,own_k34_0,own_k34_1,own_k34_2,own_k34_3,own_k34_4,own_k34_5,own_k34_6,own_k34_7,own_k34_8,own_k34_9,own_k34_10,own_k34_11,own_k34_12,own_k34_13,own_k34_14,own_k34_15,own_k34_16,own_k34_17,own_k34_18,own_k34_19,nb0,nb1,ou_a,Option.toList_some,Option.toList_none,List.nil_append,List.cons_append]
    refine lwP hlen n0 n5 m10 hK hR hS hB bd (by omega) hsp hF (fun l14 l15 l16 l17 p14 p15 p16 p17 => ?_) n 0 _ _ _ _ (by omega) o14 o15 o16 o17
    simp [nI_1,own_k34_0,own_k34_1,own_k34_2,own_k34_3,own_k34_4,own_k34_5,own_k34_6,own_k34_7,own_k34_8,own_k34_9,own_k34_10,own_k34_11,own_k34_12,own_k34_13,own_k34_14,own_k34_15,own_k34_16,own_k34_17,own_k34_18,own_k34_19,nb0,nb1,ou_a,Option.toList_some,Option.toList_none,List.nil_append,List.cons_append]
    exact ih (u + 1) _ _ _ _ _ _ _ (by omega) (okP_l _) (okS_n _) p14 p15 p16 p17
set_option maxRecDepth 1000000 in
set_option maxHeartbeats 20000000 in
theorem lwR {w : Int64} (hlen : vs.length≤260) (n0 : 0 < n) (n5 : n≤5) (m10 : m≤10) (hK : KG vs n n m s A) (s4 : s 4 = 0) (hz : ZM w m (fun e => decide (rgN vs e = 0))) (hF : ∀ s' A',LN A'→Q (some (.int 1)) (put 1 [((FieldType.array .int,vs.map Value.int) : FieldType × List Value)] s' A' [])) : M34 149 [.val (.ref 0),.val (.int (nI n)),.val (.ref 1),.val (.int (nI m)),.val (.long w),.second,.val (.int (nI m)),.unset,.unset,.unset,.unset,.unset,.unset,.unset,.unset,.unset,.unset,.unset] [] (put 1 [((FieldType.array .int,vs.map Value.int) : FieldType × List Value)] s A []) Q:=by
  have sdm : ∀ e,e < m→srN vs n e < n∧dsN vs n e < n:=fun e _ => sdN vs n0 n5 e
  have hG:=rgeF vs n m
  have zi : ∀ e,e < m→(ZB w e = true ↔ reF vs e = 0):=fun e he => by
    rw [hz e (by omega)]
    have rb:=rg_b vs e
    have : reF vs e = 0 ↔ rgN vs e = 0:=nI_inj (c:=0) (by omega) (by decide)
    simp [he,this]
  simp [own_k34_0,own_k34_1,own_k34_2,own_k34_3,own_k34_4,own_k34_5,own_k34_6,own_k34_7,own_k34_8,own_k34_9,own_k34_10,own_k34_11,own_k34_12,own_k34_13,own_k34_14,own_k34_15,own_k34_16,own_k34_17,own_k34_18,own_k34_19,nb0,nb1,ou_a,Option.toList_some,Option.toList_none,List.nil_append,List.cons_append]
  refine rtW (b:=0) hK hG (Or.inl s4) (fun q => by have:=q.2.2.1; rw [s4] at this; exact absurd this (by decide)) (fun q => absurd q (by omega)) (fun A1 _ _ hT l1 f1 => ?_) (fun s1 A1 hR l1 f1 e1 => ?_)
  · simp [own_k34_0,own_k34_1,own_k34_2,own_k34_3,own_k34_4,own_k34_5,own_k34_6,own_k34_7,own_k34_8,own_k34_9,own_k34_10,own_k34_11,own_k34_12,own_k34_13,own_k34_14,own_k34_15,own_k34_16,own_k34_17,own_k34_18,own_k34_19,nb0,nb1,ou_a,Option.toList_some,Option.toList_none,List.nil_append,List.cons_append]
    refine LpN hlen n0 n5 m10 hT zi ?_
    simp [own_k34_0,own_k34_1,own_k34_2,own_k34_3,own_k34_4,own_k34_5,own_k34_6,own_k34_7,own_k34_8,own_k34_9,own_k34_10,own_k34_11,own_k34_12,own_k34_13,own_k34_14,own_k34_15,own_k34_16,own_k34_17,own_k34_18,own_k34_19,nb0,nb1,ou_a,Option.toList_some,Option.toList_none,List.nil_append,List.cons_append]
    exact hF s A1 l1
  · have hK1 : KG vs n n m s1 A1:=(hK.ar l1 (fun k hk => f1 k (by omega))).sc (e1 0 (by decide)) (e1 1 (by decide))
    obtain ⟨_,hT,t4,t5,t6,t7,x6,g13,r9⟩:=id hR
    obtain ⟨p,y1,y2,y3,y4,y5,y6,y7,y8,y9⟩:=full_e (src:=srN vs n) (dst:=dsN vs n) n0 (by omega) (by omega) sdm hG.2 hG.1 hT
    obtain ⟨g,hP⟩:=PEF_of (x:=reF vs) (vdel:=vdF vs) (by omega) (by omega) sdm hG.1 (fun _ => 0) (fun _ => 0) hT
    obtain ⟨g1,hP1⟩:=PEF_of (x:=(cX n m (vdF vs) (reF vs) (srN vs n) (dsN vs n))) (vdel:=vdF vs) (by omega) (by omega) sdm hG.1 _ (cP n m (vdF vs) (reF vs) (srN vs n) (dsN vs n)).1 y8
    have hP : PEF n m (vdF vs) (reF vs) (srN vs n) (dsN vs n) (cP n m (vdF vs) (reF vs) (srN vs n) (dsN vs n)) g:=hP
    obtain ⟨bd,hS⟩:=SP_of (rg:=rgN vs) (del:=dlN vs) (by omega) hP sdm (fun v _ => ⟨vd_i vs v,dl_b vs v⟩) (fun e _ => ⟨re_i vs e,rg_b vs e⟩)
    have hB : B5 n m (srN vs n) (dsN vs n) (rgN vs) (dlN vs) g:=⟨n5,sdm,hP.2.2.2.2.2.2,fun e he hr => (hP.2.1 e he (by show nI (rgN vs e) = 0; rw [hr]; rfl)).2,fun v _ => dl_b vs v,fun e _ => rg_b vs e⟩
    have m1:=hK1.e1
    have m0:=hK1.e0
    rw [y1] at t5 ⊢
    rw [y2] at t7
    have pn : (nI p < 0) = False:=nnF (by omega)
    obtain ⟨bb,hbb⟩ : ∃ bb,bb = (cP n m (vdF vs) (reF vs) (srN vs n) (dsN vs n)).2:=⟨_,rfl⟩
    have ob : 0≤bb.toInt∧bb.toInt≤480:=by rw [hbb]; exact ⟨hP.2.2.2.2.1,hP.2.2.2.2.2.1⟩
    have pb : (bb < nI p) = False:=eq_false (fun q => by rw [lt_i,nI_int (by omega),hbb] at q; omega)
    have nb : (bb < 0) = False:=eq_false (by rw [nn_i]; exact ob.1)
    rw [← hbb] at t6
    have q13 : inB 0 (A1 13):=in13 l1 (i:=0) (by omega)
    have v13 : getA (A1 13) 0 = 0:=by
      have:=g13 0 n0
      rw [show nI 0 = 0 from rfl] at this
      rw [this]
      unfold lagF
      exact Int32.sub_self _
    have c0 : (0 < nI n) = True:=lT (a:=0) n0 (by omega)
    simp [own_k34_0,own_k34_1,own_k34_2,own_k34_3,own_k34_4,own_k34_5,own_k34_6,own_k34_7,own_k34_8,own_k34_9,own_k34_10,own_k34_11,own_k34_12,own_k34_13,own_k34_14,own_k34_15,own_k34_16,own_k34_17,own_k34_18,own_k34_19,nb0,nb1,ou_a,Option.toList_some,Option.toList_none,List.nil_append,List.cons_append]
    refine LpB hlen n0 n5 m10 hP zi ?_
    rw [← hbb]
    simp [nb,pn,pb,m1,m0,t4,t5,t6,t7,q13,v13,c0,own_k14_0,own_k15_0,own_k16_0,own_k17_0,own_k18_0,own_k19_0,m19_30,m19_31,own_k34_0,own_k34_1,own_k34_2,own_k34_3,own_k34_4,own_k34_5,own_k34_6,own_k34_7,own_k34_8,own_k34_9,own_k34_10,own_k34_11,own_k34_12,own_k34_13,own_k34_14,own_k34_15,own_k34_16,own_k34_17,own_k34_18,own_k34_19,nb0,nb1,ou_a,Option.toList_some,Option.toList_none,List.nil_append,List.cons_append]
    refine lwN hlen n0 n5 m10 hK1 hR y6 (fun w1 l11 o11 hz1 => ?_) m 0 _ _ (by omega) okS_u (ZM_0 _)
    have z1 : ∀ e,e < m→(ZB w1 e = true ↔ (cX n m (vdF vs) (reF vs) (srN vs n) (dsN vs n)) e = 0):=fun e he => by
      rw [hz1 e (by omega)]
      simp [he]
    simp [own_k34_0,own_k34_1,own_k34_2,own_k34_3,own_k34_4,own_k34_5,own_k34_6,own_k34_7,own_k34_8,own_k34_9,own_k34_10,own_k34_11,own_k34_12,own_k34_13,own_k34_14,own_k34_15,own_k34_16,own_k34_17,own_k34_18,own_k34_19,nb0,nb1,ou_a,Option.toList_some,Option.toList_none,List.nil_append,List.cons_append]
    refine LpB hlen n0 n5 m10 hP1 z1 ?_
    have eQ : (peI m (cX n m (vdF vs) (reF vs) (srN vs n) (dsN vs n)) (vdF vs) (srN vs n) (dsN vs n) (topo n m (cX n m (vdF vs) (reF vs) (srN vs n) (dsN vs n)) (srN vs n) (dsN vs n) (cO n m (reF vs) (srN vs n) (dsN vs n)).1).1 n 0 ((cP n m (vdF vs) (reF vs) (srN vs n) (dsN vs n)).1,0)).2 = nI p:=y2
    rw [eQ]
    simp [own_k34_0,own_k34_1,own_k34_2,own_k34_3,own_k34_4,own_k34_5,own_k34_6,own_k34_7,own_k34_8,own_k34_9,own_k34_10,own_k34_11,own_k34_12,own_k34_13,own_k34_14,own_k34_15,own_k34_16,own_k34_17,own_k34_18,own_k34_19,nb0,nb1,ou_a,Option.toList_some,Option.toList_none,List.nil_append,List.cons_append]
    exact lwU hlen n0 n5 m10 hK1 hR hS hB bd (by omega) y9 (hF s1 A1 l1) n 0 _ _ _ _ _ _ _ (by omega) (Or.inl ⟨o11,okS_u⟩) okS_u okS_u okS_u okS_u okS_u
end Lw
set_option maxRecDepth 1000000 in
set_option maxHeartbeats 20000000 in
theorem own_k {vs : List Int32} {Q : Option Value→AHeap→Prop} (hlen : vs.length≤260) (hF : ∀ s A,LN A→Q (some (.int 1)) (put 1 [((FieldType.array .int,vs.map Value.int) : FieldType × List Value)] s A [])) : M34 0 [.val (.ref 0),.unset,.unset,.unset,.unset,.unset,.unset,.unset,.unset,.unset,.unset,.unset,.unset,.unset,.unset,.unset,.unset,.unset] [] [((FieldType.array .int,vs.map Value.int) : FieldType × List Value)] Q:=by
  have b1:=(md_e (cel vs 0) (m:=5) (by decide) (by decide)).1
  have b2:=(md_e (cel vs 16) (m:=11) (by decide) (by decide)).1
  have e1 : (1 : Int32) + nI (mdN (cel vs 0) 5) = nI (1 + mdN (cel vs 0) 5):=nI_add 1 _
  simp [m34_0,m34_1,m34_2,m34_3,nb0,nb1,ou_a,Option.toList_some,Option.toList_none,List.nil_append,List.cons_append]
  refine cellR (j:=0) hlen (by decide) ?_
  simp [m34_6,m34_7,nb0,nb1,ou_a,Option.toList_some,Option.toList_none,List.nil_append,List.cons_append]
  refine modW (m:=5) (by decide) (by decide) ?_
  simp [e1,m34_10,m34_11u,m34_12,m34_15,m34_16,nb0,nb1,ou_a,Option.toList_some,Option.toList_none,List.nil_append,List.cons_append]
  refine Eq.mpr (own_ctor0 (pre:=[((FieldType.array .int,vs.map Value.int) : FieldType × List Value)]) (b:=1) rfl (Nat.le_refl 1)) ?_
  simp [own_k0_0,own_k0_1,own_k0_2,own_k0_3,m34_19u,m34_20,m34_21u,nb0,nb1,ou_a,Option.toList_some,Option.toList_none,List.nil_append,List.cons_append]
  obtain ⟨n,hn⟩ : ∃ n,n = 1 + mdN (cel vs 0) 5:=⟨_,rfl⟩
  obtain ⟨m,hm⟩ : ∃ m,m = mdN (cel vs 16) 11:=⟨_,rfl⟩
  rw [← hn]
  refine lwV hlen (by omega) (fun s1 A1 hK1 t1 => ?_) n 0 _ _ (by omega) ⟨rfl,rfl,by decide,by decide,fun _ => rfl,fun e he => absurd he (by omega),fun i hi => absurd hi (by omega),fun i hi => absurd hi (by omega),fun i hi => absurd hi (by omega),fun i hi => absurd hi (by omega),fun i hi => absurd hi (by omega),fun i hi => absurd hi (by omega)⟩ rfl
  simp [m34_70,m34_71,m34_73,nb0,nb1,ou_a,Option.toList_some,Option.toList_none,List.nil_append,List.cons_append]
  refine cellW (j:=16) hlen (by decide) ?_
  simp [m34_76,m34_78,nb0,nb1,ou_a,Option.toList_some,Option.toList_none,List.nil_append,List.cons_append]
  refine modW (m:=11) (by decide) (by decide) ?_
  rw [← hm]
  simp [m34_81i,m34_82,m34_83,m34_85,m34_86u,nb0,nb1,ou_a,Option.toList_some,Option.toList_none,List.nil_append,List.cons_append]
  exact lwE hlen (by omega) (by omega) (by omega) (fun w s2 A2 hK2 t2 hz => lwR hlen (by omega) (by omega) (by omega) hK2 t2 hz hF) m 0 0 s1 A1 (by omega) hK1 t1 (ZM_0 _)
set_option maxRecDepth 1000000 in
set_option maxHeartbeats 20000000 in
theorem own_law (vs : List Int32) (hlen : vs.length≤260) : W tables_1 dn 1 x code ret 0 (entry [.ref 0] maxLocals) [] [(FieldType.array .int,vs.map Value.int)] (fun v H1 => v = some (.int 1)∧H1.length - ([(FieldType.array .int,vs.map Value.int)] : AHeap).length≤48∧tot tables_1 H1 - tot tables_1 [(FieldType.array .int,vs.map Value.int)]≤9536):=by
  show M34 0 [.val (.ref 0),.unset,.unset,.unset,.unset,.unset,.unset,.unset,.unset,.unset,.unset,.unset,.unset,.unset,.unset,.unset,.unset,.unset] [] [(FieldType.array .int,vs.map Value.int)] _
  refine own_k hlen (fun s' A' hq => ⟨rfl,?_,?_⟩)
  · rw [put_len]; simp
  · have hq : ∀ i,(A' i).length = (A0 i).length:=hq
    rw [put_tot,pad_1]
    simp only [hq,put_len,put_tot,pad_0,tot_nil,List.length_nil,List.length_cons,A0l_0,A0l_1,A0l_2,A0l_3,A0l_4,A0l_5,A0l_6,A0l_7,A0l_8,A0l_9,A0l_10,A0l_11,A0l_12,A0l_13,A0l_14,A0l_15,A0l_16,A0l_17]
    omega
theorem own_dn : ∀ f' l',dnOf dn x = some (f',l')→f'≤room_1.frames∧l'≤room_1.locals:=by
  have h : dnOf dn x = some (4,82):=by decide +kernel
  intro f' l' q; rw [h] at q; cases q; decide
theorem own_pn : Jvm.plainName x.cls = true:=by first | (simp [Jvm.plainName,overriddenIn,x]; done) | decide +kernel
theorem own_rm (l : Launch) (Z : State) (a0 : Array Value) (hw : ∀ d ∈ tables_1,d.before a0 Z = true) (vs : List Int32) (hlen : vs.length≤260) (h : Heap) (a : Addr) (cl : Cell) (Ar : Arr Z h a cl .int) (ev : cl.slots = (vs.map Value.int).toArray) :
    MetFree l x (head1 (Jvm.Cond.code x code maxLocals ret::tables_1) room_1) (fun A U => A = #[.ref a]∧Z.Warmed39 U.vm∧U.heap = h) (fun _ _ _ _ _ => True) (fun _ U o U' => ∃ w L,o = .returned w∧(w = some (.int 1)∧Fr h.size L)∧FrameEnd U o U' L 48 9536) :=
  law_of (as:=[.ref 0]) (mx:=maxLocals) (f:=room_1.frames) (lc:=room_1.locals) hw l tables_1 own_pn (by show 1≤18; omega) (own_law vs hlen) own_dn (Sim.script tables_1 Ar ev)
set_option maxRecDepth 65536 in
set_option maxHeartbeats 40000000 in
theorem comes_1 {Post : Tables→Env→Array Value→State→Outcome→State→Prop} (hpost : ∀ tb e args s v u,(limb_1_1.after args s (.returned v) u = true∧limb_1_2.after args s (.returned v) u = true∧True)→FrameEnd s (.returned v) u (Jvm.fieldLocs frame_1_writes args s ++ Jvm.arrayLocs frame_1_arrays args s ++ Jvm.staticLocs frame_1_statics s) 48 9536→Post tb e args s (.returned v) u) :
    ArmFor flags0 classFile x code maxLocals ret World_1 tables_1 room_1 Calls_1 rest_1 Pre_1 Post:=by
  intro l hfl _ _ p e ha hc hk s m args below hf hA hF happ hP
  obtain ⟨hcalls,hrest,hpre⟩:=hP
  obtain ⟨-,-,-,hnamed,-,-,-,hat⟩:=(Spec.applies_iff hf).mp happ
  obtain ⟨hg,hn⟩:=and_e (Cond.before_iff.mp (show (Jvm.Cond.and given_1 narrow_1).before args s = true from hpre))
  obtain ⟨g0,q0⟩:=and_e hg
  obtain ⟨w0,rfl⟩ : ∃ w0 : Value,args = #[w0]:=by
    have hs : args.size = 1:=by simpa [Cond.value,given_1] using g0
    obtain ⟨L⟩:=args
    match L,hs with
    | [w0],_ => exact ⟨w0,rfl⟩
  have hw:=fun d (hd : d ∈ tables_1) => atoms_spec (ws:=Jvm.Cond.code x code maxLocals ret::tables_1) hat d (List.mem_cons_of_mem _ hd)
  have hfit : Fit s:=fun {y c} hc i hi => by
    obtain ⟨ha,rfl⟩:=Array.getElem?_eq_some_iff.mp hc
    have q:=List.all_eq_true.mp ((Array.all_eq_true_iff_forall_mem.mp hF) _ (Array.getElem_mem ha)) i (List.mem_range.mpr hi)
    simpa [Array.getElem?_eq_getElem hi] using q
  obtain ⟨n1,n2⟩:=and_e hn
  obtain ⟨a,ea⟩:=arr_v n1
  obtain rfl : w0 = .ref a:=Option.some.inj ea
  obtain ⟨cl,Ar⟩:=Arr.start ea n1
  obtain ⟨r1,-⟩:=and_e (Cond.before_iff.mp (show rest_1_c.before _ s = true from hrest))
  obtain ⟨z,ez⟩:=is_v r1
  have hat':=Ar.fin (Vm.Alike.refl _)
  have hsz : cl.slots.size < 2 ^ 31∧z = cl.slots.size.toInt32:=by
    simp only [Term.eval] at ea ez
    simp only [ea,hat',Option.bind_eq_bind,Option.bind_some] at ez
    split at ez
    · rename_i hlt; exact ⟨hlt,by simpa using ez.symm⟩
    · cases ez
  obtain ⟨vs,ev⟩:=script_of hfit Ar hsz.1
  have hlen : vs.length≤260:=by
    have e1 : cl.slots.size = vs.length:=by rw [ev]; simp
    have e2:=len_toInt hsz.1
    have n3:=Cond.le_ints (a:=.length (.arg 0)) (b:=.int 260) ez (Term.int_eval _)
    rw [n2] at n3
    have n4:=of_decide_eq_true (Option.some.inj n3).symm
    rw [Int32.le_iff_toInt_le,hsz.2,e2] at n4
    have e3 : (260 : Int32).toInt = 260:=by decide
    rw [e3] at n4
    omega
  obtain ⟨n,o,h1,h2,h3,_,L,rfl,⟨rfl,N⟩,hq⟩:=own_rm l s _ hw vs hlen s.heap a cl Ar ev p e ha hc hk s m _ below hf ((Spec.applies_iff_loose hf).mp happ).1 ⟨rfl,State.Warmed39.refl s,rfl⟩ trivial
  exact ⟨n,_,h1,h2,h3,hpost _ _ _ _ _ _ ⟨Cond.after_iff.mpr rfl,Cond.after_iff.mpr (eq_i res_at (Term.int_eval (1)) rfl),trivial⟩ ⟨hq.1,hq.2.1,(hq.2.2.sift fun y hy => Or.inr (N y hy)).mono (by decide) (by decide)⟩⟩
theorem main_1_1 : Claimed_1_1:=comes_1 fun _ _ _ _ _ _ h hF => ⟨h.1,hF⟩
theorem main_1_2 : Claimed_1_2:=comes_1 fun _ _ _ _ _ _ h hF => ⟨h.2.1,hF⟩
end Jvm.Pilot.@@N@@
namespace Jvm.Pilot.@@N@@
open Jvm Jvm.ClassFile Sem Op Lib Jvm.Free Jvm.Stand Jvm.Pilot.@@N@@.Jvm.D
/-! MADE BY PROGRAM (witnessworld.py) out of the Statement's table words and the real class files: 11 classes; the members and pool entries that the words name. The judged class is class 1, her method 12. -/
namespace start1
open Jvm.ClassFile
def u (s : String) : CpInfo:=.utf8 (stringToUtf16 s)
/-- a pool by its gaps: so many unusable entries, then the entry; so many at the end -/
def gap : Nat→List CpInfo→List CpInfo
  | 0,r => r
  | n + 1,r => .unusable::gap n r
def poolList (es : List (Nat × CpInfo)) (last : Nat) : List CpInfo:=es.foldr (fun e r => gap e.1 (e.2::r)) (gap last [])
def pool (es : List (Nat × CpInfo)) (last : Nat) : Array CpInfo:=⟨poolList es last⟩
def fileOf (pool : Array CpInfo) (this : Nat) (attrs : Array Attribute:=#[]) (ms : Array MethodInfo:=#[]) (fl : Nat:=33) (sup : Nat:=0) (ifs : Array Nat:=#[]) (fds : Array FieldInfo:=#[]) : ClassFile where
  minorVersion:=0
  majorVersion:=65
  constantPool:=pool
  accessFlags:=fl
  thisClass:=this
  superClass:=sup
  interfaces:=ifs
  fields:=fds
  methods:=ms
  attributes:=attrs
def plain (name : String) (sup : Option ClassId) : Class where
  name:=name
  kind:=.ordinary
  loader:=none
  accessFlags:=33
  super:=sup
  interfaces:=#[]
  cf:=none
  fields:=#[]
  methods:=#[]
  instanceTypes:=#[]
  staticTypes:=#[]
  resolved:=#[]
  callSites:=[]
  init:=.initialized
  statics:=none
  mirror:=none
def pool0 : Array CpInfo:=pool [(5,u "<init>"),(0,u "()V"),(1,.class_ 10),(1,u "java/lang/Object")] 113
def k0c0 : Code:={ maxStack:=0,maxLocals:=1,code:=object_method_1_code,exceptionTable:=#[],attributes:=#[] }
def k0m0 : Method:={ name := "<init>", desc := "()V", sig:={ parameters:=[],returnType:=none },accessFlags:=1,code:=some k0c0 }
/-- java/lang/Object -/
def k0 : Class:={ plain "java/lang/Object" none with
  accessFlags:=33
  interfaces:=#[]
  cf:=some (fileOf pool0 8 #[] #[{ accessFlags:=1,nameIndex:=5,descriptorIndex:=6,attributes:=#[] }] 33 0 #[] #[])
  fields:=#[]
  methods:=#[k0m0]
  instanceTypes:=#[]
  staticTypes:=#[]
  resolved:=Array.replicate 124 none
  statics:=none }
def pool1 : Array CpInfo:=pool [(2,.class_ 4),(0,.nameAndType 5 6),(0,u "java/lang/Object"),(0,u "<init>"),(0,u "()V"),(0,.methodref 8 9),(0,.class_ 10),(0,.nameAndType 11 12),(0,u "RetimingEngineOwnLaw"),(0,u "cell"),(0,u "([II)I"),(0,.methodref 8 14),(0,.nameAndType 15 16),(0,u "mod"),(0,u "(II)I"),(0,.long 18446744073709551615),(1,.methodref 8 20),(0,.nameAndType 21 12),(0,u "dl"),(0,.methodref 8 23),(0,.nameAndType 24 25),(0,u "put"),(0,u "(JIII)J"),(0,.methodref 8 27),(0,.nameAndType 28 29),(0,u "src"),(0,u "([III)I"),(0,.methodref 8 31),(0,.nameAndType 32 29),(0,u "dst"),(0,.methodref 8 34),(0,.nameAndType 35 36),(0,u "get"),(0,u "(JII)I"),(0,.methodref 8 38),(0,.nameAndType 39 12),(0,u "rg"),(0,.methodref 8 41),(0,.nameAndType 42 43),(0,u "sssp"),(0,u "([IIII)J"),(0,.class_ 45),(0,u "RetimingEngine"),(0,.methodref 44 3),(0,.methodref 44 48),(0,.nameAndType 49 50),(0,u "addVertex"),(0,u "(III)I"),(0,.methodref 44 52),(0,.nameAndType 53 50),(0,u "addEdge"),(0,.methodref 44 55),(0,.nameAndType 56 57),(0,u "retime"),(0,u "()I"),(0,.methodref 8 59),(0,.nameAndType 60 61),(0,u "period"),(0,u "([IIIJ)I"),(0,.methodref 44 63),(0,.nameAndType 64 57),(0,u "edgeCount"),(0,.methodref 44 66),(0,.nameAndType 67 57),(0,u "originalPeriod"),(0,.methodref 44 69),(0,.nameAndType 70 57),(0,u "minPeriod"),(0,.methodref 44 72),(0,.nameAndType 73 57),(0,u "retimedPeriod"),(0,.methodref 44 75),(0,.nameAndType 76 77),(0,u "lag"),(0,u "(I)I"),(0,.methodref 44 79),(0,.nameAndType 80 77),(0,u "retimedRegs"),(0,.methodref 44 82),(0,.nameAndType 83 16),(0,u "regWeight"),(0,.methodref 44 85),(0,.nameAndType 86 16),(0,u "pathDelay"),(0,.methodref 8 88),(0,.nameAndType 89 90),(0,u "feasible"),(0,u "([IIII)Z"),(3,u "law"),(0,u "([I)Z")] 4
def k1m0 : Method:={ name := "<init>", desc := "()V", sig:={ parameters:=[],returnType:=none },accessFlags:=1,code:=none }
def k1c1 : Code:={ maxStack:=2,maxLocals:=2,code:=method_2_code,exceptionTable:=#[],attributes:=#[] }
def k1m1 : Method:={ name := "cell", desc := "([II)I", sig:={ parameters:=[(.array .int),.int],returnType:=some .int },accessFlags:=10,code:=some k1c1 }
def k1c2 : Code:={ maxStack:=2,maxLocals:=3,code:=method_3_code,exceptionTable:=#[],attributes:=#[] }
def k1m2 : Method:={ name := "mod", desc := "(II)I", sig:={ parameters:=[.int,.int],returnType:=some .int },accessFlags:=10,code:=some k1c2 }
def k1c3 : Code:={ maxStack:=4,maxLocals:=2,code:=method_4_code,exceptionTable:=#[],attributes:=#[] }
def k1m3 : Method:={ name := "dl", desc := "([II)I", sig:={ parameters:=[(.array .int),.int],returnType:=some .int },accessFlags:=10,code:=some k1c3 }
def k1c4 : Code:={ maxStack:=4,maxLocals:=3,code:=method_5_code,exceptionTable:=#[],attributes:=#[] }
def k1m4 : Method:={ name := "src", desc := "([III)I", sig:={ parameters:=[(.array .int),.int,.int],returnType:=some .int },accessFlags:=10,code:=some k1c4 }
def k1c5 : Code:={ maxStack:=4,maxLocals:=3,code:=method_6_code,exceptionTable:=#[],attributes:=#[] }
def k1m5 : Method:={ name := "dst", desc := "([III)I", sig:={ parameters:=[(.array .int),.int,.int],returnType:=some .int },accessFlags:=10,code:=some k1c5 }
def k1c6 : Code:={ maxStack:=4,maxLocals:=2,code:=method_7_code,exceptionTable:=#[],attributes:=#[] }
def k1m6 : Method:={ name := "rg", desc := "([II)I", sig:={ parameters:=[(.array .int),.int],returnType:=some .int },accessFlags:=10,code:=some k1c6 }
def k1c7 : Code:={ maxStack:=6,maxLocals:=4,code:=method_8_code,exceptionTable:=#[],attributes:=#[] }
def k1m7 : Method:={ name := "get", desc := "(JII)I", sig:={ parameters:=[.long,.int,.int],returnType:=some .int },accessFlags:=10,code:=some k1c7 }
def k1c8 : Code:={ maxStack:=6,maxLocals:=7,code:=method_9_code,exceptionTable:=#[],attributes:=#[] }
def k1m8 : Method:={ name := "put", desc := "(JIII)J", sig:={ parameters:=[.long,.int,.int,.int],returnType:=some .long },accessFlags:=10,code:=some k1c8 }
def k1c9 : Code:={ maxStack:=6,maxLocals:=15,code:=method_10_code,exceptionTable:=#[],attributes:=#[] }
def k1m9 : Method:={ name := "period", desc := "([IIIJ)I", sig:={ parameters:=[(.array .int),.int,.int,.long],returnType:=some .int },accessFlags:=10,code:=some k1c9 }
def k1c10 : Code:={ maxStack:=7,maxLocals:=12,code:=method_11_code,exceptionTable:=#[],attributes:=#[] }
def k1m10 : Method:={ name := "sssp", desc := "([IIII)J", sig:={ parameters:=[(.array .int),.int,.int,.int],returnType:=some .long },accessFlags:=10,code:=some k1c10 }
def k1c11 : Code:={ maxStack:=5,maxLocals:=16,code:=method_12_code,exceptionTable:=#[],attributes:=#[] }
def k1m11 : Method:={ name := "feasible", desc := "([IIII)Z", sig:={ parameters:=[(.array .int),.int,.int,.int],returnType:=some .boolean },accessFlags:=10,code:=some k1c11 }
def k1c12 : Code:={ maxStack:=7,maxLocals:=18,code:=code,exceptionTable:=#[],attributes:=#[] }
def k1m12 : Method:={ name := "law", desc := "([I)Z", sig:={ parameters:=[(.array .int)],returnType:=some .boolean },accessFlags:=9,code:=some k1c12 }
/-- RetimingEngineOwnLaw -/
def k1 : Class:={ plain "RetimingEngineOwnLaw" (some 0) with
  accessFlags:=49
  interfaces:=#[]
  cf:=some (fileOf pool1 8 #[] #[{ accessFlags:=1,nameIndex:=5,descriptorIndex:=6,attributes:=#[] },{ accessFlags:=10,nameIndex:=11,descriptorIndex:=12,attributes:=#[] },{ accessFlags:=10,nameIndex:=15,descriptorIndex:=16,attributes:=#[] },{ accessFlags:=10,nameIndex:=21,descriptorIndex:=12,attributes:=#[] },{ accessFlags:=10,nameIndex:=28,descriptorIndex:=29,attributes:=#[] },{ accessFlags:=10,nameIndex:=32,descriptorIndex:=29,attributes:=#[] },{ accessFlags:=10,nameIndex:=39,descriptorIndex:=12,attributes:=#[] },{ accessFlags:=10,nameIndex:=35,descriptorIndex:=36,attributes:=#[] },{ accessFlags:=10,nameIndex:=24,descriptorIndex:=25,attributes:=#[] },{ accessFlags:=10,nameIndex:=60,descriptorIndex:=61,attributes:=#[] },{ accessFlags:=10,nameIndex:=42,descriptorIndex:=43,attributes:=#[] },{ accessFlags:=10,nameIndex:=89,descriptorIndex:=90,attributes:=#[] },{ accessFlags:=9,nameIndex:=94,descriptorIndex:=95,attributes:=#[] }] 49 2 #[] #[])
  fields:=#[]
  methods:=#[k1m0,k1m1,k1m2,k1m3,k1m4,k1m5,k1m6,k1m7,k1m8,k1m9,k1m10,k1m11,k1m12]
  instanceTypes:=#[]
  staticTypes:=#[]
  resolved:=Array.replicate 100 none
  statics:=none }
def pool2 : Array CpInfo:=pool [(1,.methodref 2 3),(0,.class_ 4),(0,.nameAndType 5 6),(0,u "java/lang/Object"),(0,u "<init>"),(0,u "()V"),(0,.fieldref 8 9),(0,.class_ 10),(0,.nameAndType 11 12),(0,u "RetimingEngine"),(0,u "vop"),(0,u "[I"),(0,.fieldref 8 14),(0,.nameAndType 15 12),(0,u "vdel"),(0,.fieldref 8 17),(0,.nameAndType 18 12),(0,u "vk"),(0,.fieldref 8 20),(0,.nameAndType 21 12),(0,u "esrc"),(0,.fieldref 8 23),(0,.nameAndType 24 12),(0,u "edst"),(0,.fieldref 8 26),(0,.nameAndType 27 12),(0,u "ereg"),(0,.fieldref 8 29),(0,.nameAndType 30 12),(0,u "enew"),(0,.fieldref 8 32),(0,.nameAndType 33 12),(0,u "inputs"),(0,.fieldref 8 35),(0,.nameAndType 36 12),(0,u "outs"),(0,.fieldref 8 38),(0,.nameAndType 39 12),(0,u "wt"),(0,.fieldref 8 41),(0,.nameAndType 42 12),(0,u "dd"),(0,.fieldref 8 44),(0,.nameAndType 45 46),(0,u "reach"),(0,u "[Z"),(0,.fieldref 8 48),(0,.nameAndType 49 12),(0,u "dist"),(0,.fieldref 8 51),(0,.nameAndType 52 12),(0,u "lagv"),(0,.fieldref 8 54),(0,.nameAndType 55 12),(0,u "order"),(0,.fieldref 8 57),(0,.nameAndType 58 12),(0,u "indeg"),(0,.fieldref 8 60),(0,.nameAndType 61 12),(0,u "arr"),(0,.fieldref 8 63),(0,.nameAndType 64 12),(0,u "sval"),(0,.fieldref 8 66),(0,.nameAndType 67 68),(0,u "n"),(0,u "I"),(0,.fieldref 8 70),(0,.nameAndType 71 68),(0,u "m"),(0,.fieldref 8 73),(0,.nameAndType 74 68),(0,u "inCount"),(0,.fieldref 8 76),(0,.nameAndType 77 68),(0,u "sim"),(0,.fieldref 8 79),(0,.nameAndType 80 81),(0,u "retimed"),(0,u "Z"),(0,.fieldref 8 83),(0,.nameAndType 84 68),(0,u "pmin"),(0,.methodref 8 86),(0,.nameAndType 87 88),(0,u "topo"),(0,u "(I)Z"),(0,.methodref 8 90),(0,.nameAndType 91 92),(0,u "period"),(0,u "(I)I"),(0,.fieldref 8 94),(0,.nameAndType 95 68),(0,u "origPeriod"),(0,.methodref 8 97),(0,.nameAndType 98 6),(0,u "computePairs"),(0,.methodref 8 100),(0,.nameAndType 101 102),(0,u "searchMin"),(0,u "()I"),(0,.methodref 8 104),(0,.nameAndType 105 88),(0,u "feasible"),(0,.methodref 8 107),(0,.nameAndType 108 6),(0,u "applyLags"),(0,.fieldref 8 110),(0,.nameAndType 111 68),(0,u "retPeriod"),(0,.methodref 8 113),(0,.nameAndType 114 115),(0,u "checkPair"),(0,u "(II)I"),(0,.integer 2147483648),(4,.methodref 8 122),(0,.nameAndType 123 115),(0,u "xOf"),(0,.methodref 8 125),(0,.nameAndType 126 127),(0,u "offer"),(0,u "(III)V"),(0,.methodref 8 129),(0,.nameAndType 130 131),(0,u "relaxVia"),(0,u "(I)V"),(0,.methodref 8 133),(0,.nameAndType 134 88),(0,u "relaxPass"),(3,u "(III)I"),(0,u "OP_INPUT"),(2,u "OP_ADD"),(1,u "OP_XOR"),(1,u "OP_AND"),(1,u "CIRCUIT_ORIGINAL"),(0,u "CIRCUIT_RETIMED"),(0,u "NO_PATH"),(1,u "ERR_BAD_ARG"),(1,u "ERR_FULL"),(1,u "ERR_EMPTY"),(1,u "ERR_COMB_CYCLE"),(1,u "ERR_NOT_RETIMED"),(1,u "LAG_NONE"),(0,u "MAX_VERTICES"),(1,u "MAX_EDGES"),(1,u "MAX_INPUTS"),(2,u "addVertex"),(1,u "addEdge"),(0,u "retime"),(0,u "edgeCount"),(0,u "originalPeriod"),(0,u "minPeriod"),(0,u "retimedPeriod"),(0,u "regWeight"),(0,u "pathDelay"),(0,u "lag"),(0,u "retimedRegs")] 7
def k2c0 : Code:={ maxStack:=2,maxLocals:=1,code:=prog_1_method_1_code,exceptionTable:=#[],attributes:=#[] }
def k2m0 : Method:={ name := "<init>", desc := "()V", sig:={ parameters:=[],returnType:=none },accessFlags:=1,code:=some k2c0 }
def k2c1 : Code:={ maxStack:=3,maxLocals:=4,code:=prog_1_method_2_code,exceptionTable:=#[],attributes:=#[] }
def k2m1 : Method:={ name := "addVertex", desc := "(III)I", sig:={ parameters:=[.int,.int,.int],returnType:=some .int },accessFlags:=1,code:=some k2c1 }
def k2c2 : Code:={ maxStack:=3,maxLocals:=4,code:=prog_1_method_3_code,exceptionTable:=#[],attributes:=#[] }
def k2m2 : Method:={ name := "addEdge", desc := "(III)I", sig:={ parameters:=[.int,.int,.int],returnType:=some .int },accessFlags:=1,code:=some k2c2 }
def k2c3 : Code:={ maxStack:=3,maxLocals:=1,code:=prog_1_method_4_code,exceptionTable:=#[],attributes:=#[] }
def k2m3 : Method:={ name := "retime", desc := "()I", sig:={ parameters:=[],returnType:=some .int },accessFlags:=1,code:=some k2c3 }
def k2c4 : Code:={ maxStack:=1,maxLocals:=1,code:=prog_1_method_5_code,exceptionTable:=#[],attributes:=#[] }
def k2m4 : Method:={ name := "edgeCount", desc := "()I", sig:={ parameters:=[],returnType:=some .int },accessFlags:=1,code:=some k2c4 }
def k2c5 : Code:={ maxStack:=1,maxLocals:=1,code:=prog_1_method_6_code,exceptionTable:=#[],attributes:=#[] }
def k2m5 : Method:={ name := "originalPeriod", desc := "()I", sig:={ parameters:=[],returnType:=some .int },accessFlags:=1,code:=some k2c5 }
def k2c6 : Code:={ maxStack:=1,maxLocals:=1,code:=prog_1_method_7_code,exceptionTable:=#[],attributes:=#[] }
def k2m6 : Method:={ name := "minPeriod", desc := "()I", sig:={ parameters:=[],returnType:=some .int },accessFlags:=1,code:=some k2c6 }
def k2c7 : Code:={ maxStack:=1,maxLocals:=1,code:=prog_1_method_8_code,exceptionTable:=#[],attributes:=#[] }
def k2m7 : Method:={ name := "retimedPeriod", desc := "()I", sig:={ parameters:=[],returnType:=some .int },accessFlags:=1,code:=some k2c7 }
def k2c8 : Code:={ maxStack:=3,maxLocals:=4,code:=prog_1_method_9_code,exceptionTable:=#[],attributes:=#[] }
def k2m8 : Method:={ name := "regWeight", desc := "(II)I", sig:={ parameters:=[.int,.int],returnType:=some .int },accessFlags:=1,code:=some k2c8 }
def k2c9 : Code:={ maxStack:=3,maxLocals:=4,code:=prog_1_method_10_code,exceptionTable:=#[],attributes:=#[] }
def k2m9 : Method:={ name := "pathDelay", desc := "(II)I", sig:={ parameters:=[.int,.int],returnType:=some .int },accessFlags:=1,code:=some k2c9 }
def k2c10 : Code:={ maxStack:=2,maxLocals:=2,code:=prog_1_method_11_code,exceptionTable:=#[],attributes:=#[] }
def k2m10 : Method:={ name := "lag", desc := "(I)I", sig:={ parameters:=[.int],returnType:=some .int },accessFlags:=1,code:=some k2c10 }
def k2c11 : Code:={ maxStack:=2,maxLocals:=2,code:=prog_1_method_12_code,exceptionTable:=#[],attributes:=#[] }
def k2m11 : Method:={ name := "retimedRegs", desc := "(I)I", sig:={ parameters:=[.int],returnType:=some .int },accessFlags:=1,code:=some k2c11 }
def k2c12 : Code:={ maxStack:=3,maxLocals:=3,code:=prog_1_method_18_code,exceptionTable:=#[],attributes:=#[] }
def k2m12 : Method:={ name := "checkPair", desc := "(II)I", sig:={ parameters:=[.int,.int],returnType:=some .int },accessFlags:=2,code:=some k2c12 }
def k2c13 : Code:={ maxStack:=2,maxLocals:=3,code:=prog_1_method_19_code,exceptionTable:=#[],attributes:=#[] }
def k2m13 : Method:={ name := "xOf", desc := "(II)I", sig:={ parameters:=[.int,.int],returnType:=some .int },accessFlags:=2,code:=some k2c13 }
def k2c14 : Code:={ maxStack:=4,maxLocals:=7,code:=prog_1_method_20_code,exceptionTable:=#[],attributes:=#[] }
def k2m14 : Method:={ name := "topo", desc := "(I)Z", sig:={ parameters:=[.int],returnType:=some .boolean },accessFlags:=2,code:=some k2c14 }
def k2c15 : Code:={ maxStack:=3,maxLocals:=8,code:=prog_1_method_21_code,exceptionTable:=#[],attributes:=#[] }
def k2m15 : Method:={ name := "period", desc := "(I)I", sig:={ parameters:=[.int],returnType:=some .int },accessFlags:=2,code:=some k2c15 }
def k2c16 : Code:={ maxStack:=3,maxLocals:=4,code:=prog_1_method_22_code,exceptionTable:=#[],attributes:=#[] }
def k2m16 : Method:={ name := "offer", desc := "(III)V", sig:={ parameters:=[.int,.int,.int],returnType:=none },accessFlags:=2,code:=some k2c16 }
def k2c17 : Code:={ maxStack:=6,maxLocals:=3,code:=prog_1_method_23_code,exceptionTable:=#[],attributes:=#[] }
def k2m17 : Method:={ name := "computePairs", desc := "()V", sig:={ parameters:=[],returnType:=none },accessFlags:=2,code:=some k2c17 }
def k2c18 : Code:={ maxStack:=6,maxLocals:=6,code:=prog_1_method_24_code,exceptionTable:=#[],attributes:=#[] }
def k2m18 : Method:={ name := "relaxVia", desc := "(I)V", sig:={ parameters:=[.int],returnType:=none },accessFlags:=2,code:=some k2c18 }
def k2c19 : Code:={ maxStack:=3,maxLocals:=5,code:=prog_1_method_25_code,exceptionTable:=#[],attributes:=#[] }
def k2m19 : Method:={ name := "searchMin", desc := "()I", sig:={ parameters:=[],returnType:=some .int },accessFlags:=2,code:=some k2c19 }
def k2c20 : Code:={ maxStack:=3,maxLocals:=3,code:=prog_1_method_26_code,exceptionTable:=#[],attributes:=#[] }
def k2m20 : Method:={ name := "feasible", desc := "(I)Z", sig:={ parameters:=[.int],returnType:=some .boolean },accessFlags:=2,code:=some k2c20 }
def k2c21 : Code:={ maxStack:=3,maxLocals:=7,code:=prog_1_method_27_code,exceptionTable:=#[],attributes:=#[] }
def k2m21 : Method:={ name := "relaxPass", desc := "(I)Z", sig:={ parameters:=[.int],returnType:=some .boolean },accessFlags:=2,code:=some k2c21 }
def k2c22 : Code:={ maxStack:=6,maxLocals:=2,code:=prog_1_method_28_code,exceptionTable:=#[],attributes:=#[] }
def k2m22 : Method:={ name := "applyLags", desc := "()V", sig:={ parameters:=[],returnType:=none },accessFlags:=2,code:=some k2c22 }
/-- RetimingEngine -/
def k2 : Class:={ plain "RetimingEngine" (some 0) with
  accessFlags:=49
  interfaces:=#[]
  cf:=some (fileOf pool2 8 #[] #[{ accessFlags:=1,nameIndex:=5,descriptorIndex:=6,attributes:=#[] },{ accessFlags:=1,nameIndex:=170,descriptorIndex:=138,attributes:=#[] },{ accessFlags:=1,nameIndex:=172,descriptorIndex:=138,attributes:=#[] },{ accessFlags:=1,nameIndex:=173,descriptorIndex:=102,attributes:=#[] },{ accessFlags:=1,nameIndex:=174,descriptorIndex:=102,attributes:=#[] },{ accessFlags:=1,nameIndex:=175,descriptorIndex:=102,attributes:=#[] },{ accessFlags:=1,nameIndex:=176,descriptorIndex:=102,attributes:=#[] },{ accessFlags:=1,nameIndex:=177,descriptorIndex:=102,attributes:=#[] },{ accessFlags:=1,nameIndex:=178,descriptorIndex:=115,attributes:=#[] },{ accessFlags:=1,nameIndex:=179,descriptorIndex:=115,attributes:=#[] },{ accessFlags:=1,nameIndex:=180,descriptorIndex:=92,attributes:=#[] },{ accessFlags:=1,nameIndex:=181,descriptorIndex:=92,attributes:=#[] },{ accessFlags:=2,nameIndex:=114,descriptorIndex:=115,attributes:=#[] },{ accessFlags:=2,nameIndex:=123,descriptorIndex:=115,attributes:=#[] },{ accessFlags:=2,nameIndex:=87,descriptorIndex:=88,attributes:=#[] },{ accessFlags:=2,nameIndex:=91,descriptorIndex:=92,attributes:=#[] },{ accessFlags:=2,nameIndex:=126,descriptorIndex:=127,attributes:=#[] },{ accessFlags:=2,nameIndex:=98,descriptorIndex:=6,attributes:=#[] },{ accessFlags:=2,nameIndex:=130,descriptorIndex:=131,attributes:=#[] },{ accessFlags:=2,nameIndex:=101,descriptorIndex:=102,attributes:=#[] },{ accessFlags:=2,nameIndex:=105,descriptorIndex:=88,attributes:=#[] },{ accessFlags:=2,nameIndex:=134,descriptorIndex:=88,attributes:=#[] },{ accessFlags:=2,nameIndex:=108,descriptorIndex:=6,attributes:=#[] }] 49 2 #[] #[{ accessFlags:=25,nameIndex:=139,descriptorIndex:=68,attributes:=#[] },{ accessFlags:=25,nameIndex:=142,descriptorIndex:=68,attributes:=#[] },{ accessFlags:=25,nameIndex:=144,descriptorIndex:=68,attributes:=#[] },{ accessFlags:=25,nameIndex:=146,descriptorIndex:=68,attributes:=#[] },{ accessFlags:=25,nameIndex:=148,descriptorIndex:=68,attributes:=#[] },{ accessFlags:=25,nameIndex:=149,descriptorIndex:=68,attributes:=#[] },{ accessFlags:=25,nameIndex:=150,descriptorIndex:=68,attributes:=#[] },{ accessFlags:=25,nameIndex:=152,descriptorIndex:=68,attributes:=#[] },{ accessFlags:=25,nameIndex:=154,descriptorIndex:=68,attributes:=#[] },{ accessFlags:=25,nameIndex:=156,descriptorIndex:=68,attributes:=#[] },{ accessFlags:=25,nameIndex:=158,descriptorIndex:=68,attributes:=#[] },{ accessFlags:=25,nameIndex:=160,descriptorIndex:=68,attributes:=#[] },{ accessFlags:=25,nameIndex:=162,descriptorIndex:=68,attributes:=#[] },{ accessFlags:=25,nameIndex:=163,descriptorIndex:=68,attributes:=#[] },{ accessFlags:=25,nameIndex:=165,descriptorIndex:=68,attributes:=#[] },{ accessFlags:=25,nameIndex:=167,descriptorIndex:=68,attributes:=#[] },{ accessFlags:=2,nameIndex:=67,descriptorIndex:=68,attributes:=#[] },{ accessFlags:=2,nameIndex:=71,descriptorIndex:=68,attributes:=#[] },{ accessFlags:=2,nameIndex:=11,descriptorIndex:=12,attributes:=#[] },{ accessFlags:=2,nameIndex:=15,descriptorIndex:=12,attributes:=#[] },{ accessFlags:=2,nameIndex:=18,descriptorIndex:=12,attributes:=#[] },{ accessFlags:=2,nameIndex:=21,descriptorIndex:=12,attributes:=#[] },{ accessFlags:=2,nameIndex:=24,descriptorIndex:=12,attributes:=#[] },{ accessFlags:=2,nameIndex:=27,descriptorIndex:=12,attributes:=#[] },{ accessFlags:=2,nameIndex:=30,descriptorIndex:=12,attributes:=#[] },{ accessFlags:=2,nameIndex:=33,descriptorIndex:=12,attributes:=#[] },{ accessFlags:=2,nameIndex:=74,descriptorIndex:=68,attributes:=#[] },{ accessFlags:=2,nameIndex:=77,descriptorIndex:=68,attributes:=#[] },{ accessFlags:=2,nameIndex:=36,descriptorIndex:=12,attributes:=#[] },{ accessFlags:=2,nameIndex:=80,descriptorIndex:=81,attributes:=#[] },{ accessFlags:=2,nameIndex:=84,descriptorIndex:=68,attributes:=#[] },{ accessFlags:=2,nameIndex:=95,descriptorIndex:=68,attributes:=#[] },{ accessFlags:=2,nameIndex:=111,descriptorIndex:=68,attributes:=#[] },{ accessFlags:=2,nameIndex:=39,descriptorIndex:=12,attributes:=#[] },{ accessFlags:=2,nameIndex:=42,descriptorIndex:=12,attributes:=#[] },{ accessFlags:=2,nameIndex:=45,descriptorIndex:=46,attributes:=#[] },{ accessFlags:=2,nameIndex:=49,descriptorIndex:=12,attributes:=#[] },{ accessFlags:=2,nameIndex:=52,descriptorIndex:=12,attributes:=#[] },{ accessFlags:=2,nameIndex:=55,descriptorIndex:=12,attributes:=#[] },{ accessFlags:=2,nameIndex:=58,descriptorIndex:=12,attributes:=#[] },{ accessFlags:=2,nameIndex:=61,descriptorIndex:=12,attributes:=#[] },{ accessFlags:=2,nameIndex:=64,descriptorIndex:=12,attributes:=#[] }])
  fields:=#[{ name := "OP_INPUT", type:=.int,accessFlags:=25,slot:=0,constantValue:=0 },{ name := "OP_ADD", type:=.int,accessFlags:=25,slot:=1,constantValue:=0 },{ name := "OP_XOR", type:=.int,accessFlags:=25,slot:=2,constantValue:=0 },{ name := "OP_AND", type:=.int,accessFlags:=25,slot:=3,constantValue:=0 },{ name := "CIRCUIT_ORIGINAL", type:=.int,accessFlags:=25,slot:=4,constantValue:=0 },{ name := "CIRCUIT_RETIMED", type:=.int,accessFlags:=25,slot:=5,constantValue:=0 },{ name := "NO_PATH", type:=.int,accessFlags:=25,slot:=6,constantValue:=0 },{ name := "ERR_BAD_ARG", type:=.int,accessFlags:=25,slot:=7,constantValue:=0 },{ name := "ERR_FULL", type:=.int,accessFlags:=25,slot:=8,constantValue:=0 },{ name := "ERR_EMPTY", type:=.int,accessFlags:=25,slot:=9,constantValue:=0 },{ name := "ERR_COMB_CYCLE", type:=.int,accessFlags:=25,slot:=10,constantValue:=0 },{ name := "ERR_NOT_RETIMED", type:=.int,accessFlags:=25,slot:=11,constantValue:=0 },{ name := "LAG_NONE", type:=.int,accessFlags:=25,slot:=12,constantValue:=0 },{ name := "MAX_VERTICES", type:=.int,accessFlags:=25,slot:=13,constantValue:=0 },{ name := "MAX_EDGES", type:=.int,accessFlags:=25,slot:=14,constantValue:=0 },{ name := "MAX_INPUTS", type:=.int,accessFlags:=25,slot:=15,constantValue:=0 },{ name := "n", type:=.int,accessFlags:=2,slot:=0,constantValue:=0 },{ name := "m", type:=.int,accessFlags:=2,slot:=1,constantValue:=0 },{ name := "vop", type:=(.array .int),accessFlags:=2,slot:=2,constantValue:=0 },{ name := "vdel", type:=(.array .int),accessFlags:=2,slot:=3,constantValue:=0 },{ name := "vk", type:=(.array .int),accessFlags:=2,slot:=4,constantValue:=0 },{ name := "esrc", type:=(.array .int),accessFlags:=2,slot:=5,constantValue:=0 },{ name := "edst", type:=(.array .int),accessFlags:=2,slot:=6,constantValue:=0 },{ name := "ereg", type:=(.array .int),accessFlags:=2,slot:=7,constantValue:=0 },{ name := "enew", type:=(.array .int),accessFlags:=2,slot:=8,constantValue:=0 },{ name := "inputs", type:=(.array .int),accessFlags:=2,slot:=9,constantValue:=0 },{ name := "inCount", type:=.int,accessFlags:=2,slot:=10,constantValue:=0 },{ name := "sim", type:=.int,accessFlags:=2,slot:=11,constantValue:=0 },{ name := "outs", type:=(.array .int),accessFlags:=2,slot:=12,constantValue:=0 },{ name := "retimed", type:=.boolean,accessFlags:=2,slot:=13,constantValue:=0 },{ name := "pmin", type:=.int,accessFlags:=2,slot:=14,constantValue:=0 },{ name := "origPeriod", type:=.int,accessFlags:=2,slot:=15,constantValue:=0 },{ name := "retPeriod", type:=.int,accessFlags:=2,slot:=16,constantValue:=0 },{ name := "wt", type:=(.array .int),accessFlags:=2,slot:=17,constantValue:=0 },{ name := "dd", type:=(.array .int),accessFlags:=2,slot:=18,constantValue:=0 },{ name := "reach", type:=(.array .boolean),accessFlags:=2,slot:=19,constantValue:=0 },{ name := "dist", type:=(.array .int),accessFlags:=2,slot:=20,constantValue:=0 },{ name := "lagv", type:=(.array .int),accessFlags:=2,slot:=21,constantValue:=0 },{ name := "order", type:=(.array .int),accessFlags:=2,slot:=22,constantValue:=0 },{ name := "indeg", type:=(.array .int),accessFlags:=2,slot:=23,constantValue:=0 },{ name := "arr", type:=(.array .int),accessFlags:=2,slot:=24,constantValue:=0 },{ name := "sval", type:=(.array .int),accessFlags:=2,slot:=25,constantValue:=0 }]
  methods:=#[k2m0,k2m1,k2m2,k2m3,k2m4,k2m5,k2m6,k2m7,k2m8,k2m9,k2m10,k2m11,k2m12,k2m13,k2m14,k2m15,k2m16,k2m17,k2m18,k2m19,k2m20,k2m21,k2m22]
  instanceTypes:=#[.int,.int,(.array .int),(.array .int),(.array .int),(.array .int),(.array .int),(.array .int),(.array .int),(.array .int),.int,.int,(.array .int),.boolean,.int,.int,.int,(.array .int),(.array .int),(.array .boolean),(.array .int),(.array .int),(.array .int),(.array .int),(.array .int),(.array .int)]
  staticTypes:=#[.int,.int,.int,.int,.int,.int,.int,.int,.int,.int,.int,.int,.int,.int,.int,.int]
  resolved:=Array.replicate 189 none
  statics:=none }
def pool3 : Array CpInfo:=pool [(1,u "java/lang/Cloneable"),(0,.class_ 1),(0,u "java/lang/Object"),(0,.class_ 3)] 3
/-- java/lang/Cloneable -/
def k3 : Class:={ plain "java/lang/Cloneable" (some 0) with
  accessFlags:=1537
  interfaces:=#[]
  cf:=some (fileOf pool3 2 #[] #[] 1537 4 #[] #[])
  fields:=#[]
  methods:=#[]
  instanceTypes:=#[]
  staticTypes:=#[]
  resolved:=Array.replicate 8 none
  statics:=none }
def pool4 : Array CpInfo:=pool [(1,u "java/io/Serializable"),(0,.class_ 1),(0,u "java/lang/Object"),(0,.class_ 3)] 3
/-- java/io/Serializable -/
def k4 : Class:={ plain "java/io/Serializable" (some 0) with
  accessFlags:=1537
  interfaces:=#[]
  cf:=some (fileOf pool4 2 #[] #[] 1537 4 #[] #[])
  fields:=#[]
  methods:=#[]
  instanceTypes:=#[]
  staticTypes:=#[]
  resolved:=Array.replicate 8 none
  statics:=none }
/-- the primitive boolean -/
def k5 : Class:={ plain "boolean" none with kind:=.primitive 'Z',accessFlags:=0x411 }
/-- [Z -/
def k6 : Class:={ plain "[Z" (some 0) with kind:=.array 5 .boolean,interfaces:=#[3,4],accessFlags:=1041 }
/-- the primitive byte -/
def k7 : Class:={ plain "byte" none with kind:=.primitive 'B',accessFlags:=0x411 }
/-- [B -/
def k8 : Class:={ plain "[B" (some 0) with kind:=.array 7 .byte,interfaces:=#[3,4],accessFlags:=1041 }
/-- the primitive int -/
def k9 : Class:={ plain "int" none with kind:=.primitive 'I',accessFlags:=0x411 }
/-- [I -/
def k10 : Class:={ plain "[I" (some 0) with kind:=.array 9 .int,interfaces:=#[3,4],accessFlags:=1041 }
def heap : Heap:=#[{ cls:=10,slots:=#[.int 0,.int 1],vm:=.none }]
def classes : Array Class:=#[k0,k1,k2,k3,k4,k5,k6,k7,k8,k9,k10]
def interned : List (Array UInt16 × Addr):=[]
def slotsUsed : Nat:=2
def theMethod : MethodId:=⟨1,12⟩
def args0 : Array Value:=#[.ref 0]
def aboutOver (below : List Frame) : State where
  vm:={ classes:=classes,interned:=interned.toArray }
  heap:=heap
  slotsUsed:=slotsUsed
  threads:=#[{ frames:=.invoking theMethod args0::below }]
def below0 : List Frame:=[.native { method:=⟨0,0⟩,args:=#[] }]
def about1 : State:=aboutOver below0
def p0 : Program:=.bare "" "" ""
def e0 : Env:=launch0.env 0 0 0
theorem w_frames : about1.frames = Frame.invoking theMethod args0::below0:=rfl
set_option maxRecDepth 65536 in
theorem w_args : argsFit about1.vm theMethod args0 = true:=by decide +kernel
set_option maxRecDepth 65536 in
theorem w_heap : heapFits about1 = true:=by decide +kernel
set_option maxRecDepth 65536 in
theorem w_runnable : about1.curStatus? = some .runnable:=by decide +kernel
set_option maxRecDepth 65536 in
theorem w_alone : about1.alone = true:=by decide +kernel
set_option maxRecDepth 65536 in
theorem w_named : about1.methodNamed? x = some theMethod:=by decide +kernel
set_option maxRecDepth 65536 in
theorem w_hears : about1.hears theMethod below0 = true:=by decide +kernel
set_option maxRecDepth 65536 in
theorem w_ripe : about1.ripe theMethod args0 below0 = true:=by decide +kernel
theorem w_running : about1.status = .running:=rfl
set_option maxRecDepth 65536 in
theorem w_room : about1.hasRoom e0.platform room_1 = true :=
  launch0.hasRoom_least _ room_1 (by decide +kernel) (by decide +kernel) (by decide +kernel) (by decide +kernel) (by decide +kernel) (by decide +kernel)
theorem allAtoms_all (ts : List Jvm.Cond) (a : Array Jvm.Value) (st : Jvm.State) : (allAtoms ts).before a st = ts.all (fun c => c.before a st):=by
  induction ts with
  | nil => rfl
  | cons c t ih =>
    show (Jvm.Cond.and c (allAtoms t)).before a st = _
    rw [Jvm.Cond.before_and,ih,List.all_cons]
def words1 : List Jvm.Cond:=Jvm.Cond.code x code maxLocals ret::tables_1
/-- a 'code' word, met by the world's own term for the bytes: nothing is compared byte by byte -/
theorem code_word {y : MethodName} {bytes : ByteArray} {mx : Nat} {rt : Option FieldType} {a : Array Value} {s : State} {m : MethodId} {meth : Method} {c : Code} (h1 : s.methodNamed? y = some m) (h2 : s.vm.method? m = some meth) (h3 : meth.code = some c) (h4 : c.code = bytes)
    (h5 : (c.maxLocals == mx && c.exceptionTable.isEmpty && decide (c.maxStack≤mostOperands) && decide (meth.sig.returnType = rt) && !meth.locks && decide (parseMethodDescriptor y.desc = some meth.sig)) = true) : (Jvm.Cond.code y bytes mx rt).before a s = true:=by
  simp only [Bool.and_eq_true,beq_iff_eq,Bool.not_eq_true',decide_eq_true_eq] at h5
  obtain ⟨⟨⟨⟨⟨g1,g2⟩,g3⟩,g4⟩,g5⟩,g6⟩:=h5
  simp [Cond.before,Cond.holds,Cond.value,h1,h2,h3,h4,g1,g2,g3,g4,g5,g6]
def isCode : Jvm.Cond→Bool
  | .code _ _ _ _ => true
  | _ => false
theorem all_split {L : List Jvm.Cond} {P : Jvm.Cond→Bool} (h1 : L.all (fun c => isCode c || P c) = true) (h2 : ∀ c ∈ L.filter isCode,P c = true) : L.all P = true:=by
  refine List.all_eq_true.mpr fun c hc => ?_
  have h:=List.all_eq_true.mp h1 c hc
  rcases Bool.eq_false_or_eq_true (isCode c) with hi | hi
  · exact h2 c (List.mem_filter.mpr ⟨hc,hi⟩)
  · simpa [hi] using h
set_option maxRecDepth 65536 in
theorem w_c0 : (Jvm.Cond.code x code maxLocals ret).before args0 about1 = true:=code_word (m:=⟨1,12⟩) (meth:=k1m12) (c:=k1c12) (by decide +kernel) rfl rfl rfl (by decide +kernel)
set_option maxRecDepth 65536 in
theorem w_c1 : (Jvm.Cond.code ({ cls := "RetimingEngineOwnLaw", name := "cell", desc := "([II)I" } : Jvm.MethodName) method_2_code (2 : Nat) (Option.some Jvm.ClassFile.FieldType.int)).before args0 about1 = true:=code_word (m:=⟨1,1⟩) (meth:=k1m1) (c:=k1c1) (by decide +kernel) rfl rfl rfl (by decide +kernel)
set_option maxRecDepth 65536 in
theorem w_c2 : (Jvm.Cond.code ({ cls := "RetimingEngineOwnLaw", name := "mod", desc := "(II)I" } : Jvm.MethodName) method_3_code (3 : Nat) (Option.some Jvm.ClassFile.FieldType.int)).before args0 about1 = true:=code_word (m:=⟨1,2⟩) (meth:=k1m2) (c:=k1c2) (by decide +kernel) rfl rfl rfl (by decide +kernel)
set_option maxRecDepth 65536 in
theorem w_c3 : (Jvm.Cond.code ({ cls := "RetimingEngine", name := "<init>", desc := "()V" } : Jvm.MethodName) prog_1_method_1_code (1 : Nat) (Option.none : Option Jvm.ClassFile.FieldType)).before args0 about1 = true:=code_word (m:=⟨2,0⟩) (meth:=k2m0) (c:=k2c0) (by decide +kernel) rfl rfl rfl (by decide +kernel)
set_option maxRecDepth 65536 in
theorem w_c4 : (Jvm.Cond.code ({ cls := "java/lang/Object", name := "<init>", desc := "()V" } : Jvm.MethodName) object_method_1_code (1 : Nat) (Option.none : Option Jvm.ClassFile.FieldType)).before args0 about1 = true:=code_word (m:=⟨0,0⟩) (meth:=k0m0) (c:=k0c0) (by decide +kernel) rfl rfl rfl (by decide +kernel)
set_option maxRecDepth 65536 in
theorem w_c5 : (Jvm.Cond.code ({ cls := "RetimingEngineOwnLaw", name := "dl", desc := "([II)I" } : Jvm.MethodName) method_4_code (2 : Nat) (Option.some Jvm.ClassFile.FieldType.int)).before args0 about1 = true:=code_word (m:=⟨1,3⟩) (meth:=k1m3) (c:=k1c3) (by decide +kernel) rfl rfl rfl (by decide +kernel)
set_option maxRecDepth 65536 in
theorem w_c6 : (Jvm.Cond.code ({ cls := "RetimingEngine", name := "addVertex", desc := "(III)I" } : Jvm.MethodName) prog_1_method_2_code (4 : Nat) (Option.some Jvm.ClassFile.FieldType.int)).before args0 about1 = true:=code_word (m:=⟨2,1⟩) (meth:=k2m1) (c:=k2c1) (by decide +kernel) rfl rfl rfl (by decide +kernel)
set_option maxRecDepth 65536 in
theorem w_c7 : (Jvm.Cond.code ({ cls := "RetimingEngineOwnLaw", name := "src", desc := "([III)I" } : Jvm.MethodName) method_5_code (3 : Nat) (Option.some Jvm.ClassFile.FieldType.int)).before args0 about1 = true:=code_word (m:=⟨1,4⟩) (meth:=k1m4) (c:=k1c4) (by decide +kernel) rfl rfl rfl (by decide +kernel)
set_option maxRecDepth 65536 in
theorem w_c8 : (Jvm.Cond.code ({ cls := "RetimingEngineOwnLaw", name := "dst", desc := "([III)I" } : Jvm.MethodName) method_6_code (3 : Nat) (Option.some Jvm.ClassFile.FieldType.int)).before args0 about1 = true:=code_word (m:=⟨1,5⟩) (meth:=k1m5) (c:=k1c5) (by decide +kernel) rfl rfl rfl (by decide +kernel)
set_option maxRecDepth 65536 in
theorem w_c9 : (Jvm.Cond.code ({ cls := "RetimingEngineOwnLaw", name := "rg", desc := "([II)I" } : Jvm.MethodName) method_7_code (2 : Nat) (Option.some Jvm.ClassFile.FieldType.int)).before args0 about1 = true:=code_word (m:=⟨1,6⟩) (meth:=k1m6) (c:=k1c6) (by decide +kernel) rfl rfl rfl (by decide +kernel)
set_option maxRecDepth 65536 in
theorem w_c10 : (Jvm.Cond.code ({ cls := "RetimingEngine", name := "addEdge", desc := "(III)I" } : Jvm.MethodName) prog_1_method_3_code (4 : Nat) (Option.some Jvm.ClassFile.FieldType.int)).before args0 about1 = true:=code_word (m:=⟨2,2⟩) (meth:=k2m2) (c:=k2c2) (by decide +kernel) rfl rfl rfl (by decide +kernel)
set_option maxRecDepth 65536 in
theorem w_c11 : (Jvm.Cond.code ({ cls := "RetimingEngine", name := "retime", desc := "()I" } : Jvm.MethodName) prog_1_method_4_code (1 : Nat) (Option.some Jvm.ClassFile.FieldType.int)).before args0 about1 = true:=code_word (m:=⟨2,3⟩) (meth:=k2m3) (c:=k2c3) (by decide +kernel) rfl rfl rfl (by decide +kernel)
set_option maxRecDepth 65536 in
theorem w_c12 : (Jvm.Cond.code ({ cls := "RetimingEngine", name := "topo", desc := "(I)Z" } : Jvm.MethodName) prog_1_method_20_code (7 : Nat) (Option.some Jvm.ClassFile.FieldType.boolean)).before args0 about1 = true:=code_word (m:=⟨2,14⟩) (meth:=k2m14) (c:=k2c14) (by decide +kernel) rfl rfl rfl (by decide +kernel)
set_option maxRecDepth 65536 in
theorem w_c13 : (Jvm.Cond.code ({ cls := "RetimingEngine", name := "xOf", desc := "(II)I" } : Jvm.MethodName) prog_1_method_19_code (3 : Nat) (Option.some Jvm.ClassFile.FieldType.int)).before args0 about1 = true:=code_word (m:=⟨2,13⟩) (meth:=k2m13) (c:=k2c13) (by decide +kernel) rfl rfl rfl (by decide +kernel)
set_option maxRecDepth 65536 in
theorem w_c14 : (Jvm.Cond.code ({ cls := "RetimingEngine", name := "period", desc := "(I)I" } : Jvm.MethodName) prog_1_method_21_code (8 : Nat) (Option.some Jvm.ClassFile.FieldType.int)).before args0 about1 = true:=code_word (m:=⟨2,15⟩) (meth:=k2m15) (c:=k2c15) (by decide +kernel) rfl rfl rfl (by decide +kernel)
set_option maxRecDepth 65536 in
theorem w_c15 : (Jvm.Cond.code ({ cls := "RetimingEngine", name := "computePairs", desc := "()V" } : Jvm.MethodName) prog_1_method_23_code (3 : Nat) (Option.none : Option Jvm.ClassFile.FieldType)).before args0 about1 = true:=code_word (m:=⟨2,17⟩) (meth:=k2m17) (c:=k2c17) (by decide +kernel) rfl rfl rfl (by decide +kernel)
set_option maxRecDepth 65536 in
theorem w_c16 : (Jvm.Cond.code ({ cls := "RetimingEngine", name := "offer", desc := "(III)V" } : Jvm.MethodName) prog_1_method_22_code (4 : Nat) (Option.none : Option Jvm.ClassFile.FieldType)).before args0 about1 = true:=code_word (m:=⟨2,16⟩) (meth:=k2m16) (c:=k2c16) (by decide +kernel) rfl rfl rfl (by decide +kernel)
set_option maxRecDepth 65536 in
theorem w_c17 : (Jvm.Cond.code ({ cls := "RetimingEngine", name := "relaxVia", desc := "(I)V" } : Jvm.MethodName) prog_1_method_24_code (6 : Nat) (Option.none : Option Jvm.ClassFile.FieldType)).before args0 about1 = true:=code_word (m:=⟨2,18⟩) (meth:=k2m18) (c:=k2c18) (by decide +kernel) rfl rfl rfl (by decide +kernel)
set_option maxRecDepth 65536 in
theorem w_c18 : (Jvm.Cond.code ({ cls := "RetimingEngine", name := "searchMin", desc := "()I" } : Jvm.MethodName) prog_1_method_25_code (5 : Nat) (Option.some Jvm.ClassFile.FieldType.int)).before args0 about1 = true:=code_word (m:=⟨2,19⟩) (meth:=k2m19) (c:=k2c19) (by decide +kernel) rfl rfl rfl (by decide +kernel)
set_option maxRecDepth 65536 in
theorem w_c19 : (Jvm.Cond.code ({ cls := "RetimingEngine", name := "feasible", desc := "(I)Z" } : Jvm.MethodName) prog_1_method_26_code (3 : Nat) (Option.some Jvm.ClassFile.FieldType.boolean)).before args0 about1 = true:=code_word (m:=⟨2,20⟩) (meth:=k2m20) (c:=k2c20) (by decide +kernel) rfl rfl rfl (by decide +kernel)
set_option maxRecDepth 65536 in
theorem w_c20 : (Jvm.Cond.code ({ cls := "RetimingEngine", name := "relaxPass", desc := "(I)Z" } : Jvm.MethodName) prog_1_method_27_code (7 : Nat) (Option.some Jvm.ClassFile.FieldType.boolean)).before args0 about1 = true:=code_word (m:=⟨2,21⟩) (meth:=k2m21) (c:=k2c21) (by decide +kernel) rfl rfl rfl (by decide +kernel)
set_option maxRecDepth 65536 in
theorem w_c21 : (Jvm.Cond.code ({ cls := "RetimingEngine", name := "applyLags", desc := "()V" } : Jvm.MethodName) prog_1_method_28_code (2 : Nat) (Option.none : Option Jvm.ClassFile.FieldType)).before args0 about1 = true:=code_word (m:=⟨2,22⟩) (meth:=k2m22) (c:=k2c22) (by decide +kernel) rfl rfl rfl (by decide +kernel)
set_option maxRecDepth 65536 in
theorem w_c22 : (Jvm.Cond.code ({ cls := "RetimingEngineOwnLaw", name := "period", desc := "([IIIJ)I" } : Jvm.MethodName) method_10_code (15 : Nat) (Option.some Jvm.ClassFile.FieldType.int)).before args0 about1 = true:=code_word (m:=⟨1,9⟩) (meth:=k1m9) (c:=k1c9) (by decide +kernel) rfl rfl rfl (by decide +kernel)
set_option maxRecDepth 65536 in
theorem w_c23 : (Jvm.Cond.code ({ cls := "RetimingEngineOwnLaw", name := "put", desc := "(JIII)J" } : Jvm.MethodName) method_9_code (7 : Nat) (Option.some Jvm.ClassFile.FieldType.long)).before args0 about1 = true:=code_word (m:=⟨1,8⟩) (meth:=k1m8) (c:=k1c8) (by decide +kernel) rfl rfl rfl (by decide +kernel)
set_option maxRecDepth 65536 in
theorem w_c24 : (Jvm.Cond.code ({ cls := "RetimingEngineOwnLaw", name := "get", desc := "(JII)I" } : Jvm.MethodName) method_8_code (4 : Nat) (Option.some Jvm.ClassFile.FieldType.int)).before args0 about1 = true:=code_word (m:=⟨1,7⟩) (meth:=k1m7) (c:=k1c7) (by decide +kernel) rfl rfl rfl (by decide +kernel)
set_option maxRecDepth 65536 in
theorem w_c25 : (Jvm.Cond.code ({ cls := "RetimingEngine", name := "edgeCount", desc := "()I" } : Jvm.MethodName) prog_1_method_5_code (1 : Nat) (Option.some Jvm.ClassFile.FieldType.int)).before args0 about1 = true:=code_word (m:=⟨2,4⟩) (meth:=k2m4) (c:=k2c4) (by decide +kernel) rfl rfl rfl (by decide +kernel)
set_option maxRecDepth 65536 in
theorem w_c26 : (Jvm.Cond.code ({ cls := "RetimingEngine", name := "originalPeriod", desc := "()I" } : Jvm.MethodName) prog_1_method_6_code (1 : Nat) (Option.some Jvm.ClassFile.FieldType.int)).before args0 about1 = true:=code_word (m:=⟨2,5⟩) (meth:=k2m5) (c:=k2c5) (by decide +kernel) rfl rfl rfl (by decide +kernel)
set_option maxRecDepth 65536 in
theorem w_c27 : (Jvm.Cond.code ({ cls := "RetimingEngine", name := "minPeriod", desc := "()I" } : Jvm.MethodName) prog_1_method_7_code (1 : Nat) (Option.some Jvm.ClassFile.FieldType.int)).before args0 about1 = true:=code_word (m:=⟨2,6⟩) (meth:=k2m6) (c:=k2c6) (by decide +kernel) rfl rfl rfl (by decide +kernel)
set_option maxRecDepth 65536 in
theorem w_c28 : (Jvm.Cond.code ({ cls := "RetimingEngine", name := "retimedPeriod", desc := "()I" } : Jvm.MethodName) prog_1_method_8_code (1 : Nat) (Option.some Jvm.ClassFile.FieldType.int)).before args0 about1 = true:=code_word (m:=⟨2,7⟩) (meth:=k2m7) (c:=k2c7) (by decide +kernel) rfl rfl rfl (by decide +kernel)
set_option maxRecDepth 65536 in
theorem w_c29 : (Jvm.Cond.code ({ cls := "RetimingEngine", name := "lag", desc := "(I)I" } : Jvm.MethodName) prog_1_method_11_code (2 : Nat) (Option.some Jvm.ClassFile.FieldType.int)).before args0 about1 = true:=code_word (m:=⟨2,10⟩) (meth:=k2m10) (c:=k2c10) (by decide +kernel) rfl rfl rfl (by decide +kernel)
set_option maxRecDepth 65536 in
theorem w_c30 : (Jvm.Cond.code ({ cls := "RetimingEngine", name := "retimedRegs", desc := "(I)I" } : Jvm.MethodName) prog_1_method_12_code (2 : Nat) (Option.some Jvm.ClassFile.FieldType.int)).before args0 about1 = true:=code_word (m:=⟨2,11⟩) (meth:=k2m11) (c:=k2c11) (by decide +kernel) rfl rfl rfl (by decide +kernel)
set_option maxRecDepth 65536 in
theorem w_c31 : (Jvm.Cond.code ({ cls := "RetimingEngineOwnLaw", name := "sssp", desc := "([IIII)J" } : Jvm.MethodName) method_11_code (12 : Nat) (Option.some Jvm.ClassFile.FieldType.long)).before args0 about1 = true:=code_word (m:=⟨1,10⟩) (meth:=k1m10) (c:=k1c10) (by decide +kernel) rfl rfl rfl (by decide +kernel)
set_option maxRecDepth 65536 in
theorem w_c32 : (Jvm.Cond.code ({ cls := "RetimingEngine", name := "regWeight", desc := "(II)I" } : Jvm.MethodName) prog_1_method_9_code (4 : Nat) (Option.some Jvm.ClassFile.FieldType.int)).before args0 about1 = true:=code_word (m:=⟨2,8⟩) (meth:=k2m8) (c:=k2c8) (by decide +kernel) rfl rfl rfl (by decide +kernel)
set_option maxRecDepth 65536 in
theorem w_c33 : (Jvm.Cond.code ({ cls := "RetimingEngine", name := "checkPair", desc := "(II)I" } : Jvm.MethodName) prog_1_method_18_code (3 : Nat) (Option.some Jvm.ClassFile.FieldType.int)).before args0 about1 = true:=code_word (m:=⟨2,12⟩) (meth:=k2m12) (c:=k2c12) (by decide +kernel) rfl rfl rfl (by decide +kernel)
set_option maxRecDepth 65536 in
theorem w_c34 : (Jvm.Cond.code ({ cls := "RetimingEngine", name := "pathDelay", desc := "(II)I" } : Jvm.MethodName) prog_1_method_10_code (4 : Nat) (Option.some Jvm.ClassFile.FieldType.int)).before args0 about1 = true:=code_word (m:=⟨2,9⟩) (meth:=k2m9) (c:=k2c9) (by decide +kernel) rfl rfl rfl (by decide +kernel)
set_option maxRecDepth 65536 in
theorem w_c35 : (Jvm.Cond.code ({ cls := "RetimingEngineOwnLaw", name := "feasible", desc := "([IIII)Z" } : Jvm.MethodName) method_12_code (16 : Nat) (Option.some Jvm.ClassFile.FieldType.boolean)).before args0 about1 = true:=code_word (m:=⟨1,11⟩) (meth:=k1m11) (c:=k1c11) (by decide +kernel) rfl rfl rfl (by decide +kernel)
def codes1 : List Jvm.Cond:=[Jvm.Cond.code x code maxLocals ret,Jvm.Cond.code ({ cls := "RetimingEngineOwnLaw", name := "cell", desc := "([II)I" } : Jvm.MethodName) method_2_code (2 : Nat) (Option.some Jvm.ClassFile.FieldType.int),Jvm.Cond.code ({ cls := "RetimingEngineOwnLaw", name := "mod", desc := "(II)I" } : Jvm.MethodName) method_3_code (3 : Nat) (Option.some Jvm.ClassFile.FieldType.int),Jvm.Cond.code ({ cls := "RetimingEngine", name := "<init>", desc := "()V" } : Jvm.MethodName) prog_1_method_1_code (1 : Nat) (Option.none : Option Jvm.ClassFile.FieldType),Jvm.Cond.code ({ cls := "java/lang/Object", name := "<init>", desc := "()V" } : Jvm.MethodName) object_method_1_code (1 : Nat) (Option.none : Option Jvm.ClassFile.FieldType),Jvm.Cond.code ({ cls := "RetimingEngineOwnLaw", name := "dl", desc := "([II)I" } : Jvm.MethodName) method_4_code (2 : Nat) (Option.some Jvm.ClassFile.FieldType.int),Jvm.Cond.code ({ cls := "RetimingEngine", name := "addVertex", desc := "(III)I" } : Jvm.MethodName) prog_1_method_2_code (4 : Nat) (Option.some Jvm.ClassFile.FieldType.int),Jvm.Cond.code ({ cls := "RetimingEngineOwnLaw", name := "src", desc := "([III)I" } : Jvm.MethodName) method_5_code (3 : Nat) (Option.some Jvm.ClassFile.FieldType.int),Jvm.Cond.code ({ cls := "RetimingEngineOwnLaw", name := "dst", desc := "([III)I" } : Jvm.MethodName) method_6_code (3 : Nat) (Option.some Jvm.ClassFile.FieldType.int),Jvm.Cond.code ({ cls := "RetimingEngineOwnLaw", name := "rg", desc := "([II)I" } : Jvm.MethodName) method_7_code (2 : Nat) (Option.some Jvm.ClassFile.FieldType.int),Jvm.Cond.code ({ cls := "RetimingEngine", name := "addEdge", desc := "(III)I" } : Jvm.MethodName) prog_1_method_3_code (4 : Nat) (Option.some Jvm.ClassFile.FieldType.int),Jvm.Cond.code ({ cls := "RetimingEngine", name := "retime", desc := "()I" } : Jvm.MethodName) prog_1_method_4_code (1 : Nat) (Option.some Jvm.ClassFile.FieldType.int),Jvm.Cond.code ({ cls := "RetimingEngine", name := "topo", desc := "(I)Z" } : Jvm.MethodName) prog_1_method_20_code (7 : Nat) (Option.some Jvm.ClassFile.FieldType.boolean),Jvm.Cond.code ({ cls := "RetimingEngine", name := "xOf", desc := "(II)I" } : Jvm.MethodName) prog_1_method_19_code (3 : Nat) (Option.some Jvm.ClassFile.FieldType.int),Jvm.Cond.code ({ cls := "RetimingEngine", name := "period", desc := "(I)I" } : Jvm.MethodName) prog_1_method_21_code (8 : Nat) (Option.some Jvm.ClassFile.FieldType.int),Jvm.Cond.code ({ cls := "RetimingEngine", name := "computePairs", desc := "()V" } : Jvm.MethodName) prog_1_method_23_code (3 : Nat) (Option.none : Option Jvm.ClassFile.FieldType),Jvm.Cond.code ({ cls := "RetimingEngine", name := "offer", desc := "(III)V" } : Jvm.MethodName) prog_1_method_22_code (4 : Nat) (Option.none : Option Jvm.ClassFile.FieldType),Jvm.Cond.code ({ cls := "RetimingEngine", name := "relaxVia", desc := "(I)V" } : Jvm.MethodName) prog_1_method_24_code (6 : Nat) (Option.none : Option Jvm.ClassFile.FieldType),Jvm.Cond.code ({ cls := "RetimingEngine", name := "searchMin", desc := "()I" } : Jvm.MethodName) prog_1_method_25_code (5 : Nat) (Option.some Jvm.ClassFile.FieldType.int),Jvm.Cond.code ({ cls := "RetimingEngine", name := "feasible", desc := "(I)Z" } : Jvm.MethodName) prog_1_method_26_code (3 : Nat) (Option.some Jvm.ClassFile.FieldType.boolean),Jvm.Cond.code ({ cls := "RetimingEngine", name := "relaxPass", desc := "(I)Z" } : Jvm.MethodName) prog_1_method_27_code (7 : Nat) (Option.some Jvm.ClassFile.FieldType.boolean),Jvm.Cond.code ({ cls := "RetimingEngine", name := "applyLags", desc := "()V" } : Jvm.MethodName) prog_1_method_28_code (2 : Nat) (Option.none : Option Jvm.ClassFile.FieldType),Jvm.Cond.code ({ cls := "RetimingEngineOwnLaw", name := "period", desc := "([IIIJ)I" } : Jvm.MethodName) method_10_code (15 : Nat) (Option.some Jvm.ClassFile.FieldType.int),Jvm.Cond.code ({ cls := "RetimingEngineOwnLaw", name := "put", desc := "(JIII)J" } : Jvm.MethodName) method_9_code (7 : Nat) (Option.some Jvm.ClassFile.FieldType.long),Jvm.Cond.code ({ cls := "RetimingEngineOwnLaw", name := "get", desc := "(JII)I" } : Jvm.MethodName) method_8_code (4 : Nat) (Option.some Jvm.ClassFile.FieldType.int),Jvm.Cond.code ({ cls := "RetimingEngine", name := "edgeCount", desc := "()I" } : Jvm.MethodName) prog_1_method_5_code (1 : Nat) (Option.some Jvm.ClassFile.FieldType.int),Jvm.Cond.code ({ cls := "RetimingEngine", name := "originalPeriod", desc := "()I" } : Jvm.MethodName) prog_1_method_6_code (1 : Nat) (Option.some Jvm.ClassFile.FieldType.int),Jvm.Cond.code ({ cls := "RetimingEngine", name := "minPeriod", desc := "()I" } : Jvm.MethodName) prog_1_method_7_code (1 : Nat) (Option.some Jvm.ClassFile.FieldType.int),Jvm.Cond.code ({ cls := "RetimingEngine", name := "retimedPeriod", desc := "()I" } : Jvm.MethodName) prog_1_method_8_code (1 : Nat) (Option.some Jvm.ClassFile.FieldType.int),Jvm.Cond.code ({ cls := "RetimingEngine", name := "lag", desc := "(I)I" } : Jvm.MethodName) prog_1_method_11_code (2 : Nat) (Option.some Jvm.ClassFile.FieldType.int),Jvm.Cond.code ({ cls := "RetimingEngine", name := "retimedRegs", desc := "(I)I" } : Jvm.MethodName) prog_1_method_12_code (2 : Nat) (Option.some Jvm.ClassFile.FieldType.int),Jvm.Cond.code ({ cls := "RetimingEngineOwnLaw", name := "sssp", desc := "([IIII)J" } : Jvm.MethodName) method_11_code (12 : Nat) (Option.some Jvm.ClassFile.FieldType.long),Jvm.Cond.code ({ cls := "RetimingEngine", name := "regWeight", desc := "(II)I" } : Jvm.MethodName) prog_1_method_9_code (4 : Nat) (Option.some Jvm.ClassFile.FieldType.int),Jvm.Cond.code ({ cls := "RetimingEngine", name := "checkPair", desc := "(II)I" } : Jvm.MethodName) prog_1_method_18_code (3 : Nat) (Option.some Jvm.ClassFile.FieldType.int),Jvm.Cond.code ({ cls := "RetimingEngine", name := "pathDelay", desc := "(II)I" } : Jvm.MethodName) prog_1_method_10_code (4 : Nat) (Option.some Jvm.ClassFile.FieldType.int),Jvm.Cond.code ({ cls := "RetimingEngineOwnLaw", name := "feasible", desc := "([IIII)Z" } : Jvm.MethodName) method_12_code (16 : Nat) (Option.some Jvm.ClassFile.FieldType.boolean)]
set_option maxRecDepth 65536 in
theorem codes_eq : words1.filter isCode = codes1:=rfl
theorem w_codes : ∀ c ∈ words1.filter isCode,c.before args0 about1 = true:=by
  rw [codes_eq]
  intro c hc
  simp only [codes1,List.mem_cons,List.not_mem_nil,or_false] at hc
  rcases hc with rfl | rfl | rfl | rfl | rfl | rfl | rfl | rfl | rfl | rfl | rfl | rfl | rfl | rfl | rfl | rfl | rfl | rfl | rfl | rfl | rfl | rfl | rfl | rfl | rfl | rfl | rfl | rfl | rfl | rfl | rfl | rfl | rfl | rfl | rfl | rfl
  · exact w_c0
  · exact w_c1
  · exact w_c2
  · exact w_c3
  · exact w_c4
  · exact w_c5
  · exact w_c6
  · exact w_c7
  · exact w_c8
  · exact w_c9
  · exact w_c10
  · exact w_c11
  · exact w_c12
  · exact w_c13
  · exact w_c14
  · exact w_c15
  · exact w_c16
  · exact w_c17
  · exact w_c18
  · exact w_c19
  · exact w_c20
  · exact w_c21
  · exact w_c22
  · exact w_c23
  · exact w_c24
  · exact w_c25
  · exact w_c26
  · exact w_c27
  · exact w_c28
  · exact w_c29
  · exact w_c30
  · exact w_c31
  · exact w_c32
  · exact w_c33
  · exact w_c34
  · exact w_c35
set_option maxRecDepth 65536 in
theorem w_t1 : (words1.take 24).all (fun c => isCode c || c.before args0 about1) = true:=by decide +kernel
set_option maxRecDepth 65536 in
theorem w_t2 : ((words1.drop 24).take 24).all (fun c => isCode c || c.before args0 about1) = true:=by decide +kernel
set_option maxRecDepth 65536 in
theorem w_t3 : (((words1.drop 24).drop 24).take 24).all (fun c => isCode c || c.before args0 about1) = true:=by decide +kernel
set_option maxRecDepth 65536 in
theorem w_t4 : ((((words1.drop 24).drop 24).drop 24).take 24).all (fun c => isCode c || c.before args0 about1) = true:=by decide +kernel
set_option maxRecDepth 65536 in
theorem w_t5 : (((((words1.drop 24).drop 24).drop 24).drop 24).take 24).all (fun c => isCode c || c.before args0 about1) = true:=by decide +kernel
set_option maxRecDepth 65536 in
theorem w_t6 : ((((((words1.drop 24).drop 24).drop 24).drop 24).drop 24).take 24).all (fun c => isCode c || c.before args0 about1) = true:=by decide +kernel
set_option maxRecDepth 65536 in
theorem w_t7 : (((((((words1.drop 24).drop 24).drop 24).drop 24).drop 24).drop 24).take 24).all (fun c => isCode c || c.before args0 about1) = true:=by decide +kernel
set_option maxRecDepth 65536 in
theorem w_t8 : ((((((((words1.drop 24).drop 24).drop 24).drop 24).drop 24).drop 24).drop 24).take 24).all (fun c => isCode c || c.before args0 about1) = true:=by decide +kernel
set_option maxRecDepth 65536 in
theorem w_t9 : ((((((((words1.drop 24).drop 24).drop 24).drop 24).drop 24).drop 24).drop 24).drop 24).all (fun c => isCode c || c.before args0 about1) = true:=by decide +kernel
theorem w_tables : (allAtoms (Jvm.Cond.code x code maxLocals ret::tables_1)).before args0 about1 = true:=by
  rw [allAtoms_all]
  show words1.all (fun c => c.before args0 about1) = true
  refine all_split ?_ w_codes
  rw [← List.take_append_drop 24 words1,List.all_append,w_t1,← List.take_append_drop 24 (words1.drop 24),List.all_append,w_t2,← List.take_append_drop 24 ((words1.drop 24).drop 24),List.all_append,w_t3,← List.take_append_drop 24 (((words1.drop 24).drop 24).drop 24),List.all_append,w_t4,← List.take_append_drop 24 ((((words1.drop 24).drop 24).drop 24).drop 24),List.all_append,w_t5,← List.take_append_drop 24 (((((words1.drop 24).drop 24).drop 24).drop 24).drop 24),List.all_append,w_t6,← List.take_append_drop 24 ((((((words1.drop 24).drop 24).drop 24).drop 24).drop 24).drop 24),List.all_append,w_t7,← List.take_append_drop 24 (((((((words1.drop 24).drop 24).drop 24).drop 24).drop 24).drop 24).drop 24),List.all_append,w_t8,w_t9]
  rfl
set_option maxRecDepth 65536 in
theorem w_rest : rest_1_c.before args0 about1 = true:=by decide +kernel
set_option maxRecDepth 65536 in
theorem w_case : (Jvm.Cond.and given_1 narrow_1).before args0 about1 = true:=by decide +kernel
theorem w_applies : (headSpec (Jvm.Cond.code x code maxLocals ret::tables_1) room_1).applies x e0.platform about1 = true :=
  (Spec.applies_iff w_frames).mpr ⟨w_running,w_runnable,w_alone,w_named,w_hears,w_ripe,w_room,w_tables⟩
theorem atStart : AtStart classFile x code maxLocals ret World_1 tables_1 room_1 Calls_1 rest_1 Pre_1 launch0 p0 e0 about1 theMethod args0 below0 :=
  ⟨lists_1,trivial,launch0.admits_env _ _ _,launch0.least_env,fairChoices_fair.cas,fairChoices_fair.clock,w_frames,w_args,w_heap,w_applies,trivial,w_rest,w_case⟩
end start1
theorem witness_1 : WitnessClaimed_1:=⟨start1.p0,start1.e0,start1.about1,start1.theMethod,start1.args0,start1.below0,start1.atStart⟩
end Jvm.Pilot.@@N@@
