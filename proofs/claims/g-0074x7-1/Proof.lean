import JvmDerived
import JvmDerived.Pilot.@@N@@Statement
import JvmDerived.Pilot.@@N@@Code
set_option linter.unusedVariables false
set_option linter.unusedSimpArgs false
namespace Jvm.Own
open Sem ClassFile Op Lib Jvm.Stand Jvm.Free Jvm.LawKit Jvm.RoadKit
/-! OWN 1: words of the sheet, resolved -/
abbrev AHeap:=List (FieldType × List Value)
abbrev Ws:=List Jvm.Cond
def rFld (ws : Ws) (own : String) (i : Nat) : Option (String × String × String) :=
  ws.findSome? fun d => match d with
    | .fieldLink o j C n t => if o = own∧j = i then some (C,n,t) else none
    | _ => none
def rCls (ws : Ws) (own : String) (i : Nat) : Option String :=
  ws.findSome? fun d => match d with
    | .classLink o j C => if o = own∧j = i then some C else none
    | _ => none
def rMth (ws : Ws) (own : String) (i : Nat) : Option MethodName :=
  ws.findSome? fun d => match d with
    | .methodLink o j y => if o = own∧j = i then some y else none
    | _ => none
def rCon (ws : Ws) (own : String) (i : Nat) : Option Int32 :=
  ws.findSome? fun d => match d with
    | .constant o j v => if o = own∧j = i then some v else none
    | _ => none
def rConL (ws : Ws) (own : String) (i : Nat) : Option Int64 :=
  ws.findSome? fun d => match d with
    | .constantLong o j v => if o = own∧j = i then some v else none
    | _ => none
def rInst (ws : Ws) (C : String) : Option Nat :=
  ws.findSome? fun d => match d with
    | .instantiable c n => if c = C then some n else none
    | _ => none
def rCode (ws : Ws) (y : MethodName) : Option (ByteArray × Nat × Option FieldType) :=
  ws.findSome? fun d => match d with
    | .code z b m r => if z = y then some (b,m,r) else none
    | _ => none
def hasInit (ws : Ws) (C : String) : Bool:=ws.any fun d => match d with | .initialized c => c == C | _ => false
def hasArr (ws : Ws) (t : FieldType) : Bool:=ws.any fun d => match d with | .arrayClass c => decide (c = t) | _ => false
def hasStat (ws : Ws) (y : MethodName) : Bool:=ws.any fun d => match d with | .static z => decide (z = y) | _ => false
def hasIM (ws : Ws) (y : MethodName) : Bool:=ws.any fun d => match d with | .instanceMethod z => decide (z = y) | _ => false
def hasPriv (ws : Ws) (y : MethodName) : Bool:=ws.any fun d => match d with | .privateMethod z => decide (z = y) | _ => false
def hasDecl (ws : Ws) (y : MethodName) : Bool:=ws.any fun d => match d with | .declares z => decide (z = y) | _ => false
def hasSel (ws : Ws) (y : MethodName) : Bool:=ws.any fun d => match d with | .selects c z z' => decide (c = y.cls∧z = y∧z' = y) | _ => false
def hasLays (ws : Ws) (C n t : String) : Bool:=ws.any fun d => match d with | .lays c o n' t' => decide (c = C∧o = C∧n' = n∧t' = t) | _ => false
def hasLaysF (ws : Ws) (C n t : String) : Bool:=ws.any fun d => match d with | .laysFinal c o n' t' => decide (c = C∧o = C∧n' = n∧t' = t) | _ => false
def layE (C : String) : Jvm.Cond→Option (String × String)
  | .lays c o n t => if c = C∧o = C∧(parseFieldDescriptor t).isSome = true then some (n,t) else none
  | .laysFinal c o n t => if c = C∧o = C∧(parseFieldDescriptor t).isSome = true then some (n,t) else none
  | _ => none
def olay (ws : Ws) (C : String) : List (String × String):=ws.filterMap (layE C)
def idx (x : String × String) : List (String × String)→Option Nat
  | [] => none
  | y::r => if y = x then some 0 else (idx x r).map (· + 1)
def fidx (ws : Ws) (C n t : String) : Option Nat:=idx (n,t) (olay ws C)
def gfR (ws : Ws) (own : String) (i : Nat) : Option (String × Nat) :=
  match rFld ws own i with
  | some (C,n,t) => (fidx ws C n t).map fun j => (C,j)
  | none => none
def pfR (ws : Ws) (own mn : String) (i : Nat) : Option (String × Nat × FieldType) :=
  match rFld ws own i with
  | some (C,n,t) =>
    match fidx ws C n t,parseFieldDescriptor t with
    | some j,some ty => if (hasLays ws C n t || (hasLaysF ws C n t && own == C && mn == "<init>")) && (rInst ws C).isSome && (olay ws C).all (fun q => q.1 != n || q.2 == t) then some (C,j,ty) else none
    | _,_ => none
  | none => none
section Res
variable {ws : Ws} {own C n t : String} {i : Nat} {y : MethodName}
theorem rFld_mem (h : rFld ws own i = some (C,n,t)) : Jvm.Cond.fieldLink own i C n t ∈ ws:=by
  obtain ⟨d,hd,e⟩:=List.exists_of_findSome?_eq_some h
  split at e
  · split at e
    · rename_i q; obtain ⟨rfl,rfl⟩:=q; cases e; exact hd
    · cases e
  · cases e
theorem rCls_mem (h : rCls ws own i = some C) : Jvm.Cond.classLink own i C ∈ ws:=by
  obtain ⟨d,hd,e⟩:=List.exists_of_findSome?_eq_some h
  split at e
  · split at e
    · rename_i q; obtain ⟨rfl,rfl⟩:=q; cases e; exact hd
    · cases e
  · cases e
theorem rMth_mem (h : rMth ws own i = some y) : Jvm.Cond.methodLink own i y ∈ ws:=by
  obtain ⟨d,hd,e⟩:=List.exists_of_findSome?_eq_some h
  split at e
  · split at e
    · rename_i q; obtain ⟨rfl,rfl⟩:=q; cases e; exact hd
    · cases e
  · cases e
theorem rCon_mem {v : Int32} (h : rCon ws own i = some v) : Jvm.Cond.constant own i v ∈ ws:=by
  obtain ⟨d,hd,e⟩:=List.exists_of_findSome?_eq_some h
  split at e
  · split at e
    · rename_i q; obtain ⟨rfl,rfl⟩:=q; cases e; exact hd
    · cases e
  · cases e
theorem rConL_mem {v : Int64} (h : rConL ws own i = some v) : Jvm.Cond.constantLong own i v ∈ ws:=by
  obtain ⟨d,hd,e⟩:=List.exists_of_findSome?_eq_some h
  split at e
  · split at e
    · rename_i q; obtain ⟨rfl,rfl⟩:=q; cases e; exact hd
    · cases e
  · cases e
theorem rInst_mem {k : Nat} (h : rInst ws C = some k) : Jvm.Cond.instantiable C k ∈ ws:=by
  obtain ⟨d,hd,e⟩:=List.exists_of_findSome?_eq_some h
  split at e
  · split at e
    · rename_i q; subst q; cases e; exact hd
    · cases e
  · cases e
theorem rCode_mem {b : ByteArray} {k : Nat} {r : Option FieldType} (h : rCode ws y = some (b,k,r)) : Jvm.Cond.code y b k r ∈ ws:=by
  obtain ⟨d,hd,e⟩:=List.exists_of_findSome?_eq_some h
  split at e
  · split at e
    · rename_i q; subst q; cases e; exact hd
    · cases e
  · cases e
theorem hasInit_mem (h : hasInit ws C = true) : Jvm.Cond.initialized C ∈ ws:=by
  obtain ⟨d,hd,e⟩:=List.any_eq_true.mp h
  split at e
  · rw [beq_iff_eq] at e; subst e; exact hd
  · cases e
theorem hasArr_mem {ty : FieldType} (h : hasArr ws ty = true) : Jvm.Cond.arrayClass ty ∈ ws:=by
  obtain ⟨d,hd,e⟩:=List.any_eq_true.mp h
  split at e
  · have e:=of_decide_eq_true e; subst e; exact hd
  · cases e
theorem hasStat_mem (h : hasStat ws y = true) : Jvm.Cond.static y ∈ ws:=by
  obtain ⟨d,hd,e⟩:=List.any_eq_true.mp h
  split at e
  · have e:=of_decide_eq_true e; subst e; exact hd
  · cases e
theorem hasIM_mem (h : hasIM ws y = true) : Jvm.Cond.instanceMethod y ∈ ws:=by
  obtain ⟨d,hd,e⟩:=List.any_eq_true.mp h
  split at e
  · have e:=of_decide_eq_true e; subst e; exact hd
  · cases e
theorem hasPriv_mem (h : hasPriv ws y = true) : Jvm.Cond.privateMethod y ∈ ws:=by
  obtain ⟨d,hd,e⟩:=List.any_eq_true.mp h
  split at e
  · have e:=of_decide_eq_true e; subst e; exact hd
  · cases e
theorem hasDecl_mem (h : hasDecl ws y = true) : Jvm.Cond.declares y ∈ ws:=by
  obtain ⟨d,hd,e⟩:=List.any_eq_true.mp h
  split at e
  · have e:=of_decide_eq_true e; subst e; exact hd
  · cases e
theorem hasSel_mem (h : hasSel ws y = true) : Jvm.Cond.selects y.cls y y ∈ ws:=by
  obtain ⟨d,hd,e⟩:=List.any_eq_true.mp h
  split at e
  · obtain ⟨rfl,rfl,rfl⟩:=of_decide_eq_true e; exact hd
  · cases e
theorem hasLays_mem (h : hasLays ws C n t = true) : Jvm.Cond.lays C C n t ∈ ws:=by
  obtain ⟨d,hd,e⟩:=List.any_eq_true.mp h
  split at e
  · obtain ⟨rfl,rfl,rfl,rfl⟩:=of_decide_eq_true e; exact hd
  · cases e
theorem hasLaysF_mem (h : hasLaysF ws C n t = true) : Jvm.Cond.laysFinal C C n t ∈ ws:=by
  obtain ⟨d,hd,e⟩:=List.any_eq_true.mp h
  split at e
  · obtain ⟨rfl,rfl,rfl,rfl⟩:=of_decide_eq_true e; exact hd
  · cases e
theorem lay_mem (h : (n,t) ∈ olay ws C) : (Jvm.Cond.lays C C n t ∈ ws ∨ Jvm.Cond.laysFinal C C n t ∈ ws)∧∃ ty,parseFieldDescriptor t = some ty:=by
  obtain ⟨d,hd,e⟩:=List.mem_filterMap.mp h
  unfold layE at e
  split at e
  · split at e
    · rename_i q; obtain ⟨rfl,rfl,q⟩:=q; cases e; exact ⟨Or.inl hd,Option.isSome_iff_exists.mp q⟩
    · cases e
  · split at e
    · rename_i q; obtain ⟨rfl,rfl,q⟩:=q; cases e; exact ⟨Or.inr hd,Option.isSome_iff_exists.mp q⟩
    · cases e
  · cases e
theorem idx_get {x : String × String} : ∀ {l : List (String × String)} {j : Nat},idx x l = some j→l[j]? = some x
  | [],_,h => by cases h
  | y::r,j,h => by
    unfold idx at h
    split at h
    · rename_i q; cases h; simp [q]
    · obtain ⟨j',h',rfl⟩:=Option.map_eq_some_iff.mp h
      simpa using idx_get h'
theorem fidx_mem {j : Nat} (h : fidx ws C n t = some j) : (n,t) ∈ olay ws C:=List.mem_of_getElem? (idx_get h)
theorem fidx_inj {n' t' : String} {j : Nat} (h : fidx ws C n t = some j) (h' : fidx ws C n' t' = some j) : n = n'∧t = t':=by
  have:=(idx_get h).symm.trans (idx_get h')
  simpa using this
theorem gfR_some {j : Nat} (h : gfR ws own i = some (C,j)) : ∃ n t,rFld ws own i = some (C,n,t)∧fidx ws C n t = some j:=by
  unfold gfR at h
  split at h
  · rename_i C' n' t' q
    obtain ⟨j',h',e⟩:=Option.map_eq_some_iff.mp h
    cases e; exact ⟨_,_,q,h'⟩
  · cases h
theorem pfR_some {mn : String} {j : Nat} {ty : FieldType} (h : pfR ws own mn i = some (C,j,ty)) : ∃ n t,rFld ws own i = some (C,n,t)∧fidx ws C n t = some j∧parseFieldDescriptor t = some ty ∧
    (Jvm.Cond.lays C C n t ∈ ws ∨ (Jvm.Cond.laysFinal C C n t ∈ ws∧own = C∧mn = "<init>"))∧(∃ k,Jvm.Cond.instantiable C k ∈ ws)∧∀ n' t',(n',t') ∈ olay ws C→n' ≠ n ∨ t' = t:=by
  unfold pfR at h
  split at h
  · rename_i C' n' t' q
    split at h
    · rename_i j' ty' q1 q2
      split at h
      · rename_i g
        cases h
        simp only [Bool.and_eq_true,Bool.or_eq_true,beq_iff_eq,List.all_eq_true,bne_iff_ne,ne_eq] at g
        obtain ⟨⟨g1,g2⟩,g3⟩:=g
        obtain ⟨k,hk⟩:=Option.isSome_iff_exists.mp g2
        refine ⟨n',t',q,q1,q2,?_,⟨k,rInst_mem hk⟩,fun a b hab => g3 (a,b) hab⟩
        rcases g1 with g1 | ⟨⟨g1,g4⟩,g5⟩
        · exact Or.inl (hasLays_mem g1)
        · exact Or.inr ⟨hasLaysF_mem g1,g4,g5⟩
      · cases h
    · cases h
  · cases h
end Res
end Jvm.Own
namespace Jvm.Own
open Sem ClassFile Op Lib Jvm.Stand Jvm.Free Jvm.LawKit Jvm.RoadKit
/-! OWN 2: the abstract machine -/
abbrev XR:=Option (Nat × List Slot × List Value)
def chk {α : Type} (a b : Nat) (x : Option α) : Option α:=if a = b then x else none
def isI : Value→Bool | .int _ => true | _ => false
def isL : Value→Bool | .long _ => true | _ => false
def stl (ls : List Slot) (i : Nat) (v : Value) : Option (List Slot):=(storeLocals ls.toArray i v).map Array.toList
def ldV (p : Value→Bool) (nx i : Nat) (ls : List Slot) (st : List Value) : XR :=
  match ls[i]? with
  | some (.val v) => if p v = true then some (nx,ls,v::st) else none
  | _ => none
def stV (p : Value→Bool) (nx i : Nat) (ls : List Slot) : List Value→XR
  | v::r => if p v = true then (stl ls i v).map fun l' => (nx,l',r) else none
  | [] => none
def b2 (f : Int32→Int32→Int32) (nx : Nat) (ls : List Slot) : List Value→XR
  | .int y::.int x::r => some (nx,ls,.int (f x y)::r)
  | _ => none
def d2 (f : Int32→Int32→Int32) (nx : Nat) (ls : List Slot) : List Value→XR
  | .int y::.int x::r => if y = 0 then none else some (nx,ls,.int (f x y)::r)
  | _ => none
def u1 (f : Int32→Int32) (nx : Nat) (ls : List Slot) : List Value→XR
  | .int x::r => some (nx,ls,.int (f x)::r)
  | _ => none
def l2 (f : Int64→Int64→Int64) (nx : Nat) (ls : List Slot) : List Value→XR
  | .long y::.long x::r => some (nx,ls,.long (f x y)::r)
  | _ => none
def lsh (f : Int64→Int32→Int64) (nx : Nat) (ls : List Slot) : List Value→XR
  | .int y::.long x::r => some (nx,ls,.long (f x y)::r)
  | _ => none
def jmp (pc : Nat) (o : Int) : Option Nat:=if 0≤(pc : Int) + o then some ((pc : Int) + o).toNat else none
def br (c : Bool) (pc : Nat) (o : Int) (ls : List Slot) (r : List Value) : XR :=
  if c = true then (jmp pc o).map fun q => (q,ls,r) else some (pc + 3,ls,r)
def sw (pc : Nat) (dflt low high : Int) (offs : Array Int) (ls : List Slot) : List Value→XR
  | .int i::r => if i.toInt < low ∨ i.toInt > high then (jmp pc dflt).map fun q => (q,ls,r) else
      match offs[(i.toInt - low).toNat]? with
      | some o => (jmp pc o).map fun q => (q,ls,r)
      | none => none
  | _ => none
def xstep (ins : Instr) (len pc : Nat) (ls : List Slot) (st : List Value) : XR :=
  match ins with
  | .aload_n i => chk len 1 (ldV Value.isRef (pc + 1) i.val ls st)
  | .aload i => chk len 2 (ldV Value.isRef (pc + 2) i ls st)
  | .iload_n i => chk len 1 (ldV isI (pc + 1) i.val ls st)
  | .iload i => chk len 2 (ldV isI (pc + 2) i ls st)
  | .lload_n i => chk len 1 (ldV isL (pc + 1) i.val ls st)
  | .lload i => chk len 2 (ldV isL (pc + 2) i ls st)
  | .astore_n i => chk len 1 (stV Value.isRef (pc + 1) i.val ls st)
  | .astore i => chk len 2 (stV Value.isRef (pc + 2) i ls st)
  | .istore_n i => chk len 1 (stV isI (pc + 1) i.val ls st)
  | .istore i => chk len 2 (stV isI (pc + 2) i ls st)
  | .lstore_n i => chk len 1 (stV isL (pc + 1) i.val ls st)
  | .lstore i => chk len 2 (stV isL (pc + 2) i ls st)
  | .iconst i => chk len 1 (some (pc + 1,ls,.int (Int32.ofInt i)::st))
  | .bipush i => chk len 2 (some (pc + 2,ls,.int (Int8.ofInt i).toInt32::st))
  | .sipush i => chk len 3 (some (pc + 3,ls,.int (Int16.ofInt i).toInt32::st))
  | .lconst i => chk len 1 (some (pc + 1,ls,.long (Int64.ofNat i)::st))
  | .iadd => chk len 1 (b2 (fun x y => x + y) (pc + 1) ls st)
  | .isub => chk len 1 (b2 (fun x y => x - y) (pc + 1) ls st)
  | .imul => chk len 1 (b2 (fun x y => x * y) (pc + 1) ls st)
  | .iand => chk len 1 (b2 (fun x y => x &&& y) (pc + 1) ls st)
  | .ior => chk len 1 (b2 (fun x y => x ||| y) (pc + 1) ls st)
  | .ixor => chk len 1 (b2 (fun x y => x ^^^ y) (pc + 1) ls st)
  | .ishl => chk len 1 (b2 (fun x y => x <<< (y &&& 31)) (pc + 1) ls st)
  | .ishr => chk len 1 (b2 (fun x y => x >>> (y &&& 31)) (pc + 1) ls st)
  | .iushr => chk len 1 (b2 XT.ushr (pc + 1) ls st)
  | .idiv => chk len 1 (d2 (fun x y => x / y) (pc + 1) ls st)
  | .irem => chk len 1 (d2 (fun x y => x % y) (pc + 1) ls st)
  | .ineg => chk len 1 (u1 (fun x => -x) (pc + 1) ls st)
  | .i2b => chk len 1 (u1 (fun x => x.toInt8.toInt32) (pc + 1) ls st)
  | .i2c => chk len 1 (u1 (fun x => x.toUInt32.toUInt16.toUInt32.toInt32) (pc + 1) ls st)
  | .ladd => chk len 1 (l2 (fun x y => x + y) (pc + 1) ls st)
  | .lsub => chk len 1 (l2 (fun x y => x - y) (pc + 1) ls st)
  | .lmul => chk len 1 (l2 (fun x y => x * y) (pc + 1) ls st)
  | .land => chk len 1 (l2 (fun x y => x &&& y) (pc + 1) ls st)
  | .lor => chk len 1 (l2 (fun x y => x ||| y) (pc + 1) ls st)
  | .lxor => chk len 1 (l2 (fun x y => x ^^^ y) (pc + 1) ls st)
  | .lshl => chk len 1 (lsh (fun x y => x <<< (y.toInt64 &&& 63)) (pc + 1) ls st)
  | .lshr => chk len 1 (lsh (fun x y => x >>> (y.toInt64 &&& 63)) (pc + 1) ls st)
  | .lushr => chk len 1 (lsh XT.ushrL (pc + 1) ls st)
  | .lneg => chk len 1 (match st with | .long x::r => some (pc + 1,ls,.long (-x)::r) | _ => none)
  | .i2l => chk len 1 (match st with | .int x::r => some (pc + 1,ls,.long x.toInt64::r) | _ => none)
  | .l2i => chk len 1 (match st with | .long x::r => some (pc + 1,ls,.int x.toInt32::r) | _ => none)
  | .lcmp => chk len 1 (match st with | .long y::.long x::r => some (pc + 1,ls,.int (XT.cmpL x y)::r) | _ => none)
  | .iinc i cst => chk len 3 (match ls[i]? with | some (.val (.int x)) => (stl ls i (.int (x + Int32.ofInt cst))).map fun l' => (pc + 3,l',st) | _ => none)
  | .dup => chk len 1 (match st with | x::r => if x.category = 1 then some (pc + 1,ls,x::x::r) else none | _ => none)
  | .dup2 => chk len 1 (match st with
      | .long x::r => some (pc + 1,ls,.long x::.long x::r)
      | x::y::r => if x.category = 1∧y.category = 1 then some (pc + 1,ls,x::y::x::y::r) else none
      | _ => none)
  | .pop => chk len 1 (match st with | x::r => if x.category = 1 then some (pc + 1,ls,r) else none | _ => none)
  | .goto o => chk len 3 ((jmp pc o).map fun q => (q,ls,st))
  | .ifCond cd o => chk len 3 (match st with | .int x::r => br (ifCond.holds cd x) pc o ls r | _ => none)
  | .if_icmp cd o => chk len 3 (match st with | .int y::.int x::r => br (if_icmp.holds cd x y) pc o ls r | _ => none)
  | .tableswitch dflt low high offs => sw pc dflt low high offs ls st
  | _ => none
abbrev HR:=Option (Nat × List Value × AHeap)
def putv : FieldType→Value→Option Value
  | .int,.int x => some (.int x)
  | .boolean,.int x => some (.int (nar .boolean x))
  | .byte,.int x => some (.int (nar .byte x))
  | .char,.int x => some (.int (nar .char x))
  | .short,.int x => some (.int (nar .short x))
  | .long,.long x => some (.long x)
  | .array _,.ref a => some (.ref a)
  | _,_ => none
def dflt (q : String × String) : Value:=match parseFieldDescriptor q.2 with | some ty => defaultValue ty | none => .null
def hGet (ws : Ws) (own : String) (i pc : Nat) (H : AHeap) : List Value→HR
  | .ref a::r =>
    match gfR ws own i,H[a]? with
    | some (C,j),some (.object C',vs) => if C = C' then (vs[j]?).map fun v => (pc + 3,v::r,H) else none
    | _,_ => none
  | _ => none
def hPut (ws : Ws) (k : Nat) (own mn : String) (i pc : Nat) (H : AHeap) : List Value→HR
  | v::.ref a::r =>
    match pfR ws own mn i,H[a]? with
    | some (C,j,ty),some (.object C',vs) => if C = C'∧k≤a∧j < vs.length then (putv ty v).map fun v' => (pc + 3,r,H.set a (.object C',vs.set j v')) else none
    | _,_ => none
  | _ => none
def hNew (ws : Ws) (own : String) (i pc : Nat) (H : AHeap) (st : List Value) : HR :=
  match rCls ws own i with
  | some C => if (rInst ws C).isSome = true∧hasInit ws C = true then some (pc + 3,.ref H.length::st,H ++ [(.object C,(olay ws C).map dflt)]) else none
  | none => none
def hNewA (ws : Ws) (aty : ArrayType) (pc : Nat) (H : AHeap) : List Value→HR
  | .int n::r => if hasArr ws (newarray.typeOf aty) = true∧¬ n < 0∧n.toNatClampNeg * 8≤536870912 then
      some (pc + 2,.ref H.length::r,H ++ [(.array (newarray.typeOf aty),List.replicate n.toNatClampNeg (defaultValue (newarray.typeOf aty)))]) else none
  | _ => none
def hLd (ok : FieldType→Bool) (pc : Nat) (H : AHeap) : List Value→HR
  | .int j::.ref a::r =>
    match H[a]? with
    | some (.array ty,vs) => if ok ty = true∧¬ j < 0 then (vs[j.toNatClampNeg]?).map fun v => (pc + 1,v::r,H) else none
    | _ => none
  | _ => none
def hSt (ok : FieldType→Bool) (k pc : Nat) (H : AHeap) : List Value→HR
  | v::.int j::.ref a::r =>
    match H[a]? with
    | some (.array ty,vs) => if ok ty = true∧k≤a∧¬ j < 0∧j.toNatClampNeg < vs.length then (putv ty v).map fun v' => (pc + 1,r,H.set a (.array ty,vs.set j.toNatClampNeg v')) else none
    | _ => none
  | _ => none
def hLen (pc : Nat) (H : AHeap) : List Value→HR
  | .ref a::r =>
    match H[a]? with
    | some (.array _,vs) => some (pc + 1,.int vs.length.toInt32::r,H)
    | _ => none
  | _ => none
def okT (t u : FieldType) : Bool:=decide (u = t)
def okB (u : FieldType) : Bool:=decide (u = .byte) || decide (u = .boolean)
def hstep (ws : Ws) (k : Nat) (y : MethodName) (ins : Instr) (len pc : Nat) (st : List Value) (H : AHeap) : HR :=
  match ins with
  | .getfield i => chk len 3 (hGet ws y.cls i pc H st)
  | .putfield i => chk len 3 (hPut ws k y.cls y.name i pc H st)
  | .new i => chk len 3 (hNew ws y.cls i pc H st)
  | .newarray aty => chk len 2 (hNewA ws aty pc H st)
  | .iaload => chk len 1 (hLd (okT .int) pc H st)
  | .caload => chk len 1 (hLd (okT .char) pc H st)
  | .laload => chk len 1 (hLd (okT .long) pc H st)
  | .baload => chk len 1 (hLd okB pc H st)
  | .iastore => chk len 1 (hSt (okT .int) k pc H st)
  | .castore => chk len 1 (hSt (okT .char) k pc H st)
  | .lastore => chk len 1 (hSt (okT .long) k pc H st)
  | .bastore => chk len 1 (hSt okB k pc H st)
  | .arraylength => chk len 1 (hLen pc H st)
  | .ldc i => chk len 2 ((rCon ws y.cls i).map fun v => (pc + 2,.int v::st,H))
  | .ldc_w i => chk len 3 ((rCon ws y.cls i).map fun v => (pc + 3,.int v::st,H))
  | .ldc2_w i => chk len 3 ((rConL ws y.cls i).map fun v => (pc + 3,.long v::st,H))
  | _ => none
def ent : List Value→List Slot
  | [] => []
  | v::r => if v.category = 2 then .val v::.second::ent r else .val v::ent r
def entry (as : List Value) (mx : Nat) : List Slot:=ent as ++ List.replicate (mx - (ent as).length) .unset
def wsum (st : List Value) : Nat:=(st.map fun v => v.category).sum
abbrev Dn:=List (MethodName × Nat × Nat)
def dnOf (dn : Dn) (y : MethodName) : Option (Nat × Nat):=dn.findSome? fun q => if q.1 = y then some q.2 else none
/-- what a methodref says: callee, its code, max_locals, return, number of parameters, slack for what lies under -/
def cR (ws : Ws) (dn : Dn) (y : MethodName) (i : Nat) : Option (MethodName × ByteArray × Nat × Option FieldType × Nat × Nat) :=
  match rMth ws y.cls i with
  | none => none
  | some y' =>
    match rCode ws y',dnOf dn y',dnOf dn y,parseMethodDescriptor y'.desc with
    | some (b,mx,r),some (f',l'),some (f,l),some sig =>
      if hasInit ws y'.cls = true∧Jvm.plainName y'.cls = true∧y'.cls ≠ "java/lang/invoke/MethodHandle" ∧ y'.cls ≠ "java/lang/invoke/VarHandle" ∧ f' + 1≤f∧mx + 11 + l'≤l then
        some (y',b,mx,r,sig.parameters.length,l - (mx + 11 + l')) else none
    | _,_,_,_ => none
def sR (ws : Ws) (dn : Dn) (y : MethodName) (i : Nat) : Option (MethodName × ByteArray × Nat × Option FieldType × Nat × Nat) :=
  match cR ws dn y i with
  | some q => if hasStat ws q.1 = true then some q else none
  | none => none
def nR (ws : Ws) (dn : Dn) (y : MethodName) (i : Nat) : Option (MethodName × ByteArray × Nat × Option FieldType × Nat × Nat) :=
  match cR ws dn y i with
  | some q => if q.1.name = "<init>" ∧ hasIM ws q.1 = true∧q.2.2.2.1 = none then some q else none
  | none => none
/-- the first: is it private? -/
def vR (ws : Ws) (dn : Dn) (y : MethodName) (i : Nat) : Option (Bool × MethodName × ByteArray × Nat × Option FieldType × Nat × Nat) :=
  match cR ws dn y i with
  | some q => if hasIM ws q.1 = true then
      (if hasPriv ws q.1 = true∧(rInst ws q.1.cls).isSome = true then some (true,q) else if hasDecl ws q.1 = true∧hasSel ws q.1 = true then some (false,q) else none) else none
  | none => none
/-- Object.<init>: how many words may lie under it -/
def oR (ws : Ws) (dn : Dn) (y : MethodName) (i : Nat) : Option Nat :=
  match rMth ws y.cls i,rCode ws Lib.objectInit,dnOf dn y with
  | some y',some (b,mx,r),some (f,l) =>
    if y' = Lib.objectInit∧hasIM ws Lib.objectInit = true∧b.data = #[0xb1]∧mx = 1∧r = none∧1≤f∧12≤l then some (l - 12) else none
  | _,_,_ => none
abbrev Call:=MethodName × ByteArray × Option FieldType × List Slot × List Value
/-- returns and calls -/
def cstep (ws : Ws) (dn : Dn) (y : MethodName) (ret : Option FieldType) (ins : Instr) (len pc : Nat) (ls : List Slot) (st : List Value) (H : AHeap) : Option (Option Value ⊕ (Nat × List Slot × List Value × AHeap) ⊕ Call) :=
  match ins with
  | .ireturn => chk len 1 (match st,ret with
      | .int z::_,some t => if t = .int ∨ t = .boolean ∨ t = .byte ∨ t = .char ∨ t = .short then some (.inl (some (.int (nar t z)))) else none
      | _,_ => none)
  | .lreturn => chk len 1 (match st,ret with
      | [.long z],some .long => some (.inl (some (.long z)))
      | _,_ => none)
  | .return_ => chk len 1 (match st,ret with
      | [],none => some (.inl none)
      | _,_ => none)
  | .invokestatic i => chk len 3 (match sR ws dn y i with
      | some (y',b,mx,r,na,sl) =>
        if na≤st.length∧wsum (st.drop na)≤sl∧(ent (st.take na).reverse).length≤mx then
          some (.inr (.inr (y',b,r,entry (st.take na).reverse mx,st.drop na)))
        else none
      | none => none)
  | .invokespecial i => chk len 3 (match oR ws dn y i with
      | some sl => (match st with
          | .ref _::r => if wsum r≤sl then some (.inr (.inl (pc + 3,ls,r,H))) else none
          | _ => none)
      | none => match nR ws dn y i with
        | some (y',b,mx,r,na,sl) =>
          (match st.drop na with
          | .ref a::rest =>
            if wsum rest≤sl∧(ent (.ref a::(st.take na).reverse)).length≤mx∧na≤st.length then
              some (.inr (.inr (y',b,r,entry (.ref a::(st.take na).reverse) mx,rest)))
            else none
          | _ => none)
        | none => none)
  | .invokevirtual i => chk len 3 (match vR ws dn y i with
      | some (pv,y',b,mx,r,na,sl) =>
        (match st.drop na with
        | .ref a::rest =>
          (match H[a]? with
          | some (.object C,_) =>
            if (pv = true ∨ C = y'.cls)∧wsum rest≤sl∧(ent (.ref a::(st.take na).reverse)).length≤mx∧na≤st.length then
              some (.inr (.inr (y',b,r,entry (.ref a::(st.take na).reverse) mx,rest)))
            else none
          | _ => none)
        | _ => none)
      | none => none)
  | _ => none
/-- what the machine does next: it returns, it steps, it calls -/
def act (ws : Ws) (dn : Dn) (k : Nat) (y : MethodName) (bytes : ByteArray) (ret : Option FieldType) (pc : Nat) (ls : List Slot) (st : List Value) (H : AHeap) : Option (Option Value ⊕ (Nat × List Slot × List Value × AHeap) ⊕ Call) :=
  match decode bytes pc with
  | .error _ => none
  | .ok (ins,len) =>
    match xstep ins len pc ls st with
    | some q => some (.inr (.inl (q.1,q.2.1,q.2.2,H)))
    | none => match hstep ws k y ins len pc st H with
      | some q => some (.inr (.inl (q.1,ls,q.2.1,q.2.2)))
      | none => cstep ws dn y ret ins len pc ls st H
def run (ws : Ws) (dn : Dn) (k : Nat) : Nat→MethodName→ByteArray→Option FieldType→Nat→List Slot→List Value→AHeap→Option (Option Value × AHeap)
  | 0,_,_,_,_,_,_,_ => none
  | n + 1,y,bytes,ret,pc,ls,st,H =>
    match act ws dn k y bytes ret pc ls st H with
    | none => none
    | some (.inl v) => some (v,H)
    | some (.inr (.inl (pc',ls',st',H'))) => run ws dn k n y bytes ret pc' ls' st' H'
    | some (.inr (.inr (y',b,r,en,rest))) =>
      match run ws dn k n y' b r 0 en [] H with
      | some (v,H1) => run ws dn k n y bytes ret (pc + 3) ls (v.toList ++ rest) H1
      | none => none
end Jvm.Own
namespace Jvm.Own
open Sem ClassFile Op Lib Jvm.Stand Jvm.Free Jvm.LawKit Jvm.RoadKit
/-! OWN 3: the abstract machine's plain steps are the machine's -/
def ren (f : Nat→Nat) : Value→Value
  | .ref a => .ref (f a)
  | v => v
def renS (f : Nat→Nat) : Slot→Slot
  | .val v => .val (ren f v)
  | s => s
abbrev fr (f : Nat→Nat) (m : MethodId) (pc : Nat) (ls : List Slot) (st : List Value) : JFrame:=mkF m pc (ls.map (renS f)).toArray (st.map (ren f))
theorem ren_cat (f : Nat→Nat) (v : Value) : (ren f v).category = v.category:=by cases v <;> rfl
theorem ren_isRef (f : Nat→Nat) (v : Value) : (ren f v).isRef = v.isRef:=by cases v <;> rfl
theorem isI_int {v : Value} (h : isI v = true) : ∃ x,v = .int x:=by cases v <;> first | exact ⟨_,rfl⟩ | cases h
theorem isL_long {v : Value} (h : isL v = true) : ∃ x,v = .long x:=by cases v <;> first | exact ⟨_,rfl⟩ | cases h
theorem chk_some {α : Type} {a b : Nat} {x : Option α} {r : α} (h : chk a b x = some r) : a = b∧x = some r:=by
  unfold chk at h
  split at h
  · exact ⟨by assumption,h⟩
  · cases h
theorem loc_get {f : Nat→Nat} {ls : List Slot} {i : Nat} {s : Slot} (h : ls[i]? = some s) : ((ls.map (renS f)).toArray)[i]? = some (renS f s):=by
  rw [List.getElem?_toArray,List.getElem?_map,h]; rfl
theorem setAt_ren (f : Nat→Nat) (l : Array Slot) (i : Nat) (x : Slot) : setAt (l.map (renS f)) i (renS f x) = (setAt l i x).map fun a => a.map (renS f):=by
  unfold setAt
  rw [Array.size_map]
  split
  · rw [Option.map_some,Array.map_setIfInBounds]
  · rfl
theorem storeSelf_ren (f : Nat→Nat) (l : Array Slot) (i : Nat) (v : Value) : storeSelf (l.map (renS f)) i (ren f v) = (storeSelf l i v).map fun a => a.map (renS f):=by
  have h0 : setAt (l.map (renS f)) i (.val (ren f v)) = _:=setAt_ren f l i (.val v)
  simp only [storeSelf,h0,ren_cat]
  cases setAt l i (.val v) with
  | none => rfl
  | some l1 =>
    simp only [Option.map_some,Option.bind_eq_bind,Option.bind_some,bind_pure_comp]
    split
    · rw [Array.getElem?_map]
      cases l1[i + 1]? with
      | none => rfl
      | some s =>
        simp only [Option.map_some,Option.bind_some]
        cases s with
        | unset => exact setAt_ren f l1 (i + 1) .second
        | second => exact setAt_ren f l1 (i + 1) .second
        | val w =>
          simp only [renS,ren_cat]
          split
          · have h1 : setAt (l1.map (renS f)) (i + 2) .unset = _:=setAt_ren f l1 (i + 2) .unset
            rw [h1]
            cases setAt l1 (i + 2) .unset with
            | none => rfl
            | some l2 => exact setAt_ren f l2 (i + 1) .second
          · exact setAt_ren f l1 (i + 1) .second
    · rfl
theorem storeLocals_ren (f : Nat→Nat) (l : Array Slot) (i : Nat) (v : Value) : storeLocals (l.map (renS f)) i (ren f v) = (storeLocals l i v).map fun a => a.map (renS f):=by
  simp only [storeLocals,Array.getElem?_map]
  cases l[i]? with
  | none => rfl
  | some s =>
    simp only [Option.map_some,Option.bind_eq_bind,Option.bind_some]
    cases s with
    | unset => exact storeSelf_ren f l i v
    | second =>
      have h1 : setAt (l.map (renS f)) (i - 1) .unset = _:=setAt_ren f l (i - 1) .unset
      simp only [renS,h1]
      cases setAt l (i - 1) .unset with
      | none => rfl
      | some l2 => exact storeSelf_ren f l2 i v
    | val w =>
      simp only [renS,ren_cat]
      split
      · have h1 : setAt (l.map (renS f)) (i + 1) .unset = _:=setAt_ren f l (i + 1) .unset
        rw [h1]
        cases setAt l (i + 1) .unset with
        | none => rfl
        | some l2 => exact storeSelf_ren f l2 i v
      · exact storeSelf_ren f l i v
theorem stl_ren {f : Nat→Nat} {ls l' : List Slot} {i : Nat} {v : Value} (h : stl ls i v = some l') : storeLocals (ls.map (renS f)).toArray i (ren f v) = some (l'.map (renS f)).toArray:=by
  unfold stl at h
  obtain ⟨a,ha,rfl⟩:=Option.map_eq_some_iff.mp h
  have:=storeLocals_ren f ls.toArray i v
  rw [ha] at this
  rw [← List.map_toArray,this]
  simp [← Array.toList_inj]
theorem setAt_size {l l' : Array Slot} {i : Nat} {x : Slot} (h : setAt l i x = some l') : l'.size = l.size:=by
  unfold setAt at h
  split at h
  · cases h; simp
  · cases h
theorem storeSelf_size {l l' : Array Slot} {i : Nat} {v : Value} (h : storeSelf l i v = some l') : l'.size = l.size:=by
  simp only [storeSelf,Option.bind_eq_bind,Option.bind_eq_some_iff] at h
  obtain ⟨l1,h1,h⟩:=h
  have e1:=setAt_size h1
  split at h
  · obtain ⟨s,-,h⟩:=Option.bind_eq_some_iff.mp h
    split at h
    · split at h
      · obtain ⟨l2,h2,h⟩:=Option.bind_eq_some_iff.mp h
        rw [setAt_size h,setAt_size h2,e1]
      · rw [setAt_size h,e1]
    · rw [setAt_size h,e1]
  · cases h; exact e1
theorem storeLocals_size {l l' : Array Slot} {i : Nat} {v : Value} (h : storeLocals l i v = some l') : l'.size = l.size:=by
  simp only [storeLocals,Option.bind_eq_bind,Option.bind_eq_some_iff] at h
  obtain ⟨s,-,h⟩:=h
  split at h
  · obtain ⟨l2,h2,h⟩:=Option.bind_eq_some_iff.mp h
    rw [storeSelf_size h,setAt_size h2]
  · split at h
    · obtain ⟨l2,h2,h⟩:=Option.bind_eq_some_iff.mp h
      rw [storeSelf_size h,setAt_size h2]
    · exact storeSelf_size h
  · exact storeSelf_size h
theorem stl_size {ls l' : List Slot} {i : Nat} {v : Value} (h : stl ls i v = some l') : l'.length = ls.length:=by
  unfold stl at h
  obtain ⟨a,ha,rfl⟩:=Option.map_eq_some_iff.mp h
  have:=storeLocals_size ha
  simpa using this
theorem ldV_some {p : Value→Bool} {nx i : Nat} {ls : List Slot} {st : List Value} {q : Nat × List Slot × List Value} (h : ldV p nx i ls st = some q) : ∃ v,ls[i]? = some (.val v)∧p v = true∧q = (nx,ls,v::st):=by
  unfold ldV at h
  split at h
  · rename_i v hv
    split at h
    · cases h; exact ⟨v,hv,by assumption,rfl⟩
    · cases h
  · cases h
theorem stV_some {p : Value→Bool} {nx i : Nat} {ls : List Slot} {st : List Value} {q : Nat × List Slot × List Value} (h : stV p nx i ls st = some q) : ∃ v r l',st = v::r∧p v = true∧stl ls i v = some l'∧q = (nx,l',r):=by
  unfold stV at h
  split at h
  · split at h
    · obtain ⟨l',h1,h2⟩:=Option.map_eq_some_iff.mp h
      exact ⟨_,_,l',rfl,by assumption,h1,h2.symm⟩
    · cases h
  · cases h
theorem b2_some {f : Int32→Int32→Int32} {nx : Nat} {ls : List Slot} {st : List Value} {q : Nat × List Slot × List Value} (h : b2 f nx ls st = some q) : ∃ x y r,st = .int y::.int x::r∧q = (nx,ls,.int (f x y)::r):=by
  unfold b2 at h
  split at h
  · cases h; exact ⟨_,_,_,rfl,rfl⟩
  · cases h
theorem d2_some {f : Int32→Int32→Int32} {nx : Nat} {ls : List Slot} {st : List Value} {q : Nat × List Slot × List Value} (h : d2 f nx ls st = some q) : ∃ x y r,st = .int y::.int x::r∧y ≠ 0∧q = (nx,ls,.int (f x y)::r):=by
  unfold d2 at h
  split at h
  · split at h
    · cases h
    · cases h; exact ⟨_,_,_,rfl,by assumption,rfl⟩
  · cases h
theorem u1_some {f : Int32→Int32} {nx : Nat} {ls : List Slot} {st : List Value} {q : Nat × List Slot × List Value} (h : u1 f nx ls st = some q) : ∃ x r,st = .int x::r∧q = (nx,ls,.int (f x)::r):=by
  unfold u1 at h
  split at h
  · cases h; exact ⟨_,_,rfl,rfl⟩
  · cases h
theorem l2_some {f : Int64→Int64→Int64} {nx : Nat} {ls : List Slot} {st : List Value} {q : Nat × List Slot × List Value} (h : l2 f nx ls st = some q) : ∃ x y r,st = .long y::.long x::r∧q = (nx,ls,.long (f x y)::r):=by
  unfold l2 at h
  split at h
  · cases h; exact ⟨_,_,_,rfl,rfl⟩
  · cases h
theorem lsh_some {f : Int64→Int32→Int64} {nx : Nat} {ls : List Slot} {st : List Value} {q : Nat × List Slot × List Value} (h : lsh f nx ls st = some q) : ∃ x y r,st = .int y::.long x::r∧q = (nx,ls,.long (f x y)::r):=by
  unfold lsh at h
  split at h
  · cases h; exact ⟨_,_,_,rfl,rfl⟩
  · cases h
theorem jmp_some {pc q : Nat} {o : Int} (h : jmp pc o = some q) : 0≤(pc : Int) + o∧((pc : Int) + o).toNat = q:=by
  unfold jmp at h
  split at h
  · cases h; exact ⟨by assumption,rfl⟩
  · cases h
theorem br_some {c : Bool} {pc : Nat} {o : Int} {ls : List Slot} {r : List Value} {q : Nat × List Slot × List Value} (h : br c pc o ls r = some q) : (c = true∧∃ t,0≤(pc : Int) + o∧((pc : Int) + o).toNat = t∧q = (t,ls,r)) ∨ (c = false∧q = (pc + 3,ls,r)):=by
  unfold br at h
  split at h
  · obtain ⟨t,h1,h2⟩:=Option.map_eq_some_iff.mp h
    obtain ⟨h3,h4⟩:=jmp_some h1
    exact Or.inl ⟨by assumption,t,h3,h4,h2.symm⟩
  · rename_i hc; cases h; exact Or.inr ⟨by simpa using hc,rfl⟩
section X
variable {tb : Tables} [Ours tb] {e : Env} {below : List Frame} {T target : State} {m : MethodId} {c : Code}
set_option maxHeartbeats 4000000 in
theorem xstep_sound (h : At T m c below) (hx : tb.exec = Jvm.exec) (f : Nat→Nat) {ins : Instr} {len pc : Nat} {ls : List Slot} {st : List Value} {q : Nat × List Slot × List Value}
    (hd : decode c.code pc = .ok (ins,len)) (hs : xstep ins len pc ls st = some q) (hr : Steps tb e below (T.setTop (fr f m q.1 q.2.1 q.2.2)) target) : Steps tb e below (T.setTop (fr f m pc ls st)) target:=by
  unfold xstep at hs
  split at hs
  · obtain ⟨rfl,hs⟩:=chk_some hs; obtain ⟨v,h1,h2,rfl⟩:=ldV_some hs
    exact XS.aloadN h hx rfl hd (loc_get h1) (by rw [ren_isRef]; exact h2) hr
  · obtain ⟨rfl,hs⟩:=chk_some hs; obtain ⟨v,h1,h2,rfl⟩:=ldV_some hs
    exact XS.aload h hx rfl hd (loc_get h1) (by rw [ren_isRef]; exact h2) hr
  · obtain ⟨rfl,hs⟩:=chk_some hs; obtain ⟨v,h1,h2,rfl⟩:=ldV_some hs; obtain ⟨x,rfl⟩:=isI_int h2
    exact XS.iloadN h hx rfl hd (loc_get (f:=f) h1) hr
  · obtain ⟨rfl,hs⟩:=chk_some hs; obtain ⟨v,h1,h2,rfl⟩:=ldV_some hs; obtain ⟨x,rfl⟩:=isI_int h2
    exact XS.iload h hx rfl hd (loc_get (f:=f) h1) hr
  · obtain ⟨rfl,hs⟩:=chk_some hs; obtain ⟨v,h1,h2,rfl⟩:=ldV_some hs; obtain ⟨x,rfl⟩:=isL_long h2
    exact XT.lloadN h hx rfl hd (loc_get (f:=f) h1) hr
  · obtain ⟨rfl,hs⟩:=chk_some hs; obtain ⟨v,h1,h2,rfl⟩:=ldV_some hs; obtain ⟨x,rfl⟩:=isL_long h2
    exact XT.lload h hx rfl hd (loc_get (f:=f) h1) hr
  · obtain ⟨rfl,hs⟩:=chk_some hs; obtain ⟨v,r,l',rfl,h2,h3,rfl⟩:=stV_some hs
    exact XS.astoreN h hx rfl hd rfl (by rw [ren_isRef]; exact h2) (stl_ren h3) hr
  · obtain ⟨rfl,hs⟩:=chk_some hs; obtain ⟨v,r,l',rfl,h2,h3,rfl⟩:=stV_some hs
    exact XS.astore h hx rfl hd rfl (by rw [ren_isRef]; exact h2) (stl_ren h3) hr
  · obtain ⟨rfl,hs⟩:=chk_some hs; obtain ⟨v,r,l',rfl,h2,h3,rfl⟩:=stV_some hs; obtain ⟨x,rfl⟩:=isI_int h2
    exact XS.istoreN h hx rfl hd rfl (stl_ren (f:=f) h3) hr
  · obtain ⟨rfl,hs⟩:=chk_some hs; obtain ⟨v,r,l',rfl,h2,h3,rfl⟩:=stV_some hs; obtain ⟨x,rfl⟩:=isI_int h2
    exact XS.istore h hx rfl hd rfl (stl_ren (f:=f) h3) hr
  · obtain ⟨rfl,hs⟩:=chk_some hs; obtain ⟨v,r,l',rfl,h2,h3,rfl⟩:=stV_some hs; obtain ⟨x,rfl⟩:=isL_long h2
    exact XT.lstoreN h hx rfl hd rfl (stl_ren (f:=f) h3) hr
  · obtain ⟨rfl,hs⟩:=chk_some hs; obtain ⟨v,r,l',rfl,h2,h3,rfl⟩:=stV_some hs; obtain ⟨x,rfl⟩:=isL_long h2
    exact XT.lstore h hx rfl hd rfl (stl_ren (f:=f) h3) hr
  · obtain ⟨rfl,hs⟩:=chk_some hs; cases hs
    exact XS.iconst h hx rfl hd hr
  · obtain ⟨rfl,hs⟩:=chk_some hs; cases hs
    exact XS.bipush h hx rfl hd hr
  · obtain ⟨rfl,hs⟩:=chk_some hs; cases hs
    exact XS.sipush h hx rfl hd hr
  · obtain ⟨rfl,hs⟩:=chk_some hs; cases hs
    exact XT.lconst h hx rfl hd hr
  · obtain ⟨rfl,hs⟩:=chk_some hs; obtain ⟨x,y,r,rfl,rfl⟩:=b2_some hs
    exact XS.iadd h hx rfl hd rfl hr
  · obtain ⟨rfl,hs⟩:=chk_some hs; obtain ⟨x,y,r,rfl,rfl⟩:=b2_some hs
    exact XS.isub h hx rfl hd rfl hr
  · obtain ⟨rfl,hs⟩:=chk_some hs; obtain ⟨x,y,r,rfl,rfl⟩:=b2_some hs
    exact XS.imul h hx rfl hd rfl hr
  · obtain ⟨rfl,hs⟩:=chk_some hs; obtain ⟨x,y,r,rfl,rfl⟩:=b2_some hs
    exact XS.iand h hx rfl hd rfl hr
  · obtain ⟨rfl,hs⟩:=chk_some hs; obtain ⟨x,y,r,rfl,rfl⟩:=b2_some hs
    exact XT.ior h hx rfl hd rfl hr
  · obtain ⟨rfl,hs⟩:=chk_some hs; obtain ⟨x,y,r,rfl,rfl⟩:=b2_some hs
    exact XT.ixor h hx rfl hd rfl hr
  · obtain ⟨rfl,hs⟩:=chk_some hs; obtain ⟨x,y,r,rfl,rfl⟩:=b2_some hs
    exact XT.ishl h hx rfl hd rfl hr
  · obtain ⟨rfl,hs⟩:=chk_some hs; obtain ⟨x,y,r,rfl,rfl⟩:=b2_some hs
    exact XT.ishr h hx rfl hd rfl hr
  · obtain ⟨rfl,hs⟩:=chk_some hs; obtain ⟨x,y,r,rfl,rfl⟩:=b2_some hs
    exact XT.iushr h hx rfl hd rfl hr
  · obtain ⟨rfl,hs⟩:=chk_some hs; obtain ⟨x,y,r,rfl,h2,rfl⟩:=d2_some hs
    exact XS.idiv h hx rfl hd rfl h2 hr
  · obtain ⟨rfl,hs⟩:=chk_some hs; obtain ⟨x,y,r,rfl,h2,rfl⟩:=d2_some hs
    refine XS.irem h hx rfl hd rfl h2 ?_
    have q : x - x / y * y = x % y:=irem_eq_mod x y
    rw [q]; exact hr
  · obtain ⟨rfl,hs⟩:=chk_some hs; obtain ⟨x,r,rfl,rfl⟩:=u1_some hs
    exact XS.ineg h hx rfl hd rfl hr
  · obtain ⟨rfl,hs⟩:=chk_some hs; obtain ⟨x,r,rfl,rfl⟩:=u1_some hs
    exact XT.i2b h hx rfl hd rfl hr
  · obtain ⟨rfl,hs⟩:=chk_some hs; obtain ⟨x,r,rfl,rfl⟩:=u1_some hs
    exact XT.i2c h hx rfl hd rfl hr
  · obtain ⟨rfl,hs⟩:=chk_some hs; obtain ⟨x,y,r,rfl,rfl⟩:=l2_some hs
    exact XT.ladd h hx rfl hd rfl hr
  · obtain ⟨rfl,hs⟩:=chk_some hs; obtain ⟨x,y,r,rfl,rfl⟩:=l2_some hs
    exact XT.lsub h hx rfl hd rfl hr
  · obtain ⟨rfl,hs⟩:=chk_some hs; obtain ⟨x,y,r,rfl,rfl⟩:=l2_some hs
    exact XT.lmul h hx rfl hd rfl hr
  · obtain ⟨rfl,hs⟩:=chk_some hs; obtain ⟨x,y,r,rfl,rfl⟩:=l2_some hs
    exact XT.land h hx rfl hd rfl hr
  · obtain ⟨rfl,hs⟩:=chk_some hs; obtain ⟨x,y,r,rfl,rfl⟩:=l2_some hs
    exact XT.lor h hx rfl hd rfl hr
  · obtain ⟨rfl,hs⟩:=chk_some hs; obtain ⟨x,y,r,rfl,rfl⟩:=l2_some hs
    exact XT.lxor h hx rfl hd rfl hr
  · obtain ⟨rfl,hs⟩:=chk_some hs; obtain ⟨x,y,r,rfl,rfl⟩:=lsh_some hs
    exact XT.lshl h hx rfl hd rfl hr
  · obtain ⟨rfl,hs⟩:=chk_some hs; obtain ⟨x,y,r,rfl,rfl⟩:=lsh_some hs
    exact XT.lshr h hx rfl hd rfl hr
  · obtain ⟨rfl,hs⟩:=chk_some hs; obtain ⟨x,y,r,rfl,rfl⟩:=lsh_some hs
    exact XT.lushr h hx rfl hd rfl hr
  · obtain ⟨rfl,hs⟩:=chk_some hs
    split at hs
    · cases hs; exact XT.lneg h hx rfl hd rfl hr
    · cases hs
  · obtain ⟨rfl,hs⟩:=chk_some hs
    split at hs
    · cases hs; exact XT.i2l h hx rfl hd rfl hr
    · cases hs
  · obtain ⟨rfl,hs⟩:=chk_some hs
    split at hs
    · cases hs; exact XT.l2i h hx rfl hd rfl hr
    · cases hs
  · obtain ⟨rfl,hs⟩:=chk_some hs
    split at hs
    · cases hs; exact XT.lcmp h hx rfl hd rfl hr
    · cases hs
  · obtain ⟨rfl,hs⟩:=chk_some hs
    split at hs
    · rename_i x h1
      obtain ⟨l',h2,rfl⟩:=Option.map_eq_some_iff.mp hs
      exact XS.iinc h hx rfl hd (loc_get (f:=f) h1) (stl_ren (f:=f) h2) hr
    · cases hs
  · obtain ⟨rfl,hs⟩:=chk_some hs
    split at hs
    · split at hs
      · rename_i hc; cases hs; exact XS.dup h hx rfl hd rfl (by rw [ren_cat]; exact hc) hr
      · cases hs
    · cases hs
  · obtain ⟨rfl,hs⟩:=chk_some hs
    split at hs
    · cases hs; exact XT.dup2L h hx rfl hd rfl hr
    · split at hs
      · rename_i hc; cases hs; exact XT.dup2 h hx rfl hd rfl (by rw [ren_cat]; exact hc.1) (by rw [ren_cat]; exact hc.2) hr
      · cases hs
    · cases hs
  · obtain ⟨rfl,hs⟩:=chk_some hs
    split at hs
    · split at hs
      · rename_i hc; cases hs; exact XT.pop h hx rfl hd rfl (by rw [ren_cat]; exact hc) hr
      · cases hs
    · cases hs
  · obtain ⟨rfl,hs⟩:=chk_some hs
    obtain ⟨t,h1,rfl⟩:=Option.map_eq_some_iff.mp hs
    obtain ⟨h2,h3⟩:=jmp_some h1
    exact XS.goto h hx rfl rfl hd h2 h3 hr
  · obtain ⟨rfl,hs⟩:=chk_some hs
    split at hs
    · rcases br_some hs with ⟨hc,t,h1,h2,rfl⟩ | ⟨hc,rfl⟩
      · exact XS.ifYes h hx rfl rfl hd rfl hc h1 h2 hr
      · exact XS.ifNo h hx rfl hd rfl hc hr
    · cases hs
  · obtain ⟨rfl,hs⟩:=chk_some hs
    split at hs
    · rcases br_some hs with ⟨hc,t,h1,h2,rfl⟩ | ⟨hc,rfl⟩
      · exact XS.icmpYes h hx rfl rfl hd rfl hc h1 h2 hr
      · exact XS.icmpNo h hx rfl hd rfl hc hr
    · cases hs
  · unfold sw at hs
    split at hs
    · split at hs
      · rename_i hc
        obtain ⟨t,h1,rfl⟩:=Option.map_eq_some_iff.mp hs
        obtain ⟨h2,h3⟩:=jmp_some h1
        exact XS.tswOut h hx rfl rfl hd rfl hc h2 h3 hr
      · rename_i hc
        split at hs
        · rename_i o ho
          obtain ⟨t,h1,rfl⟩:=Option.map_eq_some_iff.mp hs
          obtain ⟨h2,h3⟩:=jmp_some h1
          exact XS.tswIn h hx rfl rfl hd rfl hc ho h2 h3 hr
        · cases hs
    · cases hs
  · cases hs
end X
theorem xstep_size {ins : Instr} {len pc : Nat} {ls : List Slot} {st : List Value} {q : Nat × List Slot × List Value} (hs : xstep ins len pc ls st = some q) : q.2.1.length = ls.length:=by
  unfold xstep at hs
  split at hs
  all_goals first
    | (obtain ⟨rfl,hs⟩:=chk_some hs; obtain ⟨v,h1,h2,rfl⟩:=ldV_some hs; rfl)
    | (obtain ⟨rfl,hs⟩:=chk_some hs; obtain ⟨v,r,l',rfl,h2,h3,rfl⟩:=stV_some hs; exact stl_size h3)
    | (obtain ⟨rfl,hs⟩:=chk_some hs; cases hs; rfl)
    | (obtain ⟨rfl,hs⟩:=chk_some hs; obtain ⟨x,y,r,rfl,rfl⟩:=b2_some hs; rfl)
    | (obtain ⟨rfl,hs⟩:=chk_some hs; obtain ⟨x,y,r,rfl,h2,rfl⟩:=d2_some hs; rfl)
    | (obtain ⟨rfl,hs⟩:=chk_some hs; obtain ⟨x,r,rfl,rfl⟩:=u1_some hs; rfl)
    | (obtain ⟨rfl,hs⟩:=chk_some hs; obtain ⟨x,y,r,rfl,rfl⟩:=l2_some hs; rfl)
    | (obtain ⟨rfl,hs⟩:=chk_some hs; obtain ⟨x,y,r,rfl,rfl⟩:=lsh_some hs; rfl)
    | (obtain ⟨rfl,hs⟩:=chk_some hs; split at hs <;> first | (cases hs; rfl) | (cases hs; done))
    | (obtain ⟨rfl,hs⟩:=chk_some hs; split at hs <;> first | (obtain ⟨l',h2,rfl⟩:=Option.map_eq_some_iff.mp hs; exact stl_size h2) | (cases hs; done))
    | (obtain ⟨rfl,hs⟩:=chk_some hs; split at hs <;> first | (split at hs <;> first | (cases hs; rfl) | (cases hs; done)) | (cases hs; rfl) | (cases hs; done))
    | (obtain ⟨rfl,hs⟩:=chk_some hs; obtain ⟨t,h1,rfl⟩:=Option.map_eq_some_iff.mp hs; rfl)
    | (obtain ⟨rfl,hs⟩:=chk_some hs; split at hs <;> first | (rcases br_some hs with ⟨hc,t,h1,h2,rfl⟩ | ⟨hc,rfl⟩ <;> rfl) | (cases hs; done))
    | (unfold sw at hs; split at hs <;> first | (cases hs; done) | (split at hs <;> first | (obtain ⟨t,h1,rfl⟩:=Option.map_eq_some_iff.mp hs; rfl) | (split at hs <;> first | (obtain ⟨t,h1,rfl⟩:=Option.map_eq_some_iff.mp hs; rfl) | (cases hs; done))))
    | (cases hs; done)
end Jvm.Own
namespace Jvm.Own
open Sem ClassFile Op Lib Jvm.Stand Jvm.Free Jvm.LawKit Jvm.RoadKit
/-! OWN 4: the heap's steps -/
def adr (k sa n0 i : Nat) : Nat:=if i < k then sa else n0 + (i - k)
def SimO (Z : State) (ws : Ws) (f : Nat→Nat) (h : Heap) (a : Addr) : FieldType × List Value→Prop
  | (.object C,vs) => Exa Z h a C∧∀ n t j,fidx ws C n t = some j→∃ v,vs[j]? = some v∧Fld Z h a C n t (ren f v)
  | (.array ty,vs) => ∃ c : Cell,Arr Z h a c ty∧c.slots = (vs.map (ren f)).toArray
  | _ => False
def Sim (Z : State) (ws : Ws) (k sa n0 : Nat) (H : AHeap) (h : Heap) : Prop :=
  h.size = n0 + (H.length - k)∧k≤H.length∧k≤1∧(1≤k→sa < n0)∧∀ i o,H[i]? = some o→SimO Z ws (adr k sa n0) h (adr k sa n0 i) o
def cost (ws : Ws) : FieldType × List Value→Nat
  | (.object C,_) => (rInst ws C).getD 0
  | (_,vs) => vs.length
def tot (ws : Ws) (H : AHeap) : Nat:=(H.map (cost ws)).sum
theorem adr_inj {k sa n0 i j : Nat} (hk : k≤1) (hs : 1≤k→sa < n0) (e : adr k sa n0 i = adr k sa n0 j) : i = j:=by
  unfold adr at e; split at e <;> split at e <;> omega
theorem adr_ge {k sa n0 a : Nat} (h : k≤a) : n0≤adr k sa n0 a:=by
  unfold adr; rw [if_neg (by omega)]; omega
theorem tot_app (ws : Ws) (H : AHeap) (o : FieldType × List Value) : tot ws (H ++ [o]) = tot ws H + cost ws o:=by simp [tot]
theorem tot_set {ws : Ws} : ∀ {H : AHeap} {a : Nat} {o o' : FieldType × List Value},H[a]? = some o→cost ws o' = cost ws o→tot ws (H.set a o') = tot ws H
  | [],_,_,_,h,_ => by cases h
  | x::r,0,o,o',h,e => by
    simp only [List.getElem?_cons_zero,Option.some.injEq] at h; subst h
    simp [tot,e]
  | x::r,a + 1,o,o',h,e => by
    have:=tot_set (ws:=ws) (H:=r) (a:=a) (o:=o) (o':=o') (by simpa using h) e
    simp only [tot,List.set_cons_succ,List.map_cons,List.sum_cons] at this ⊢
    rw [this]
theorem ren_dflt (f : Nat→Nat) (ty : FieldType) : ren f (defaultValue ty) = defaultValue ty:=by cases ty <;> rfl
section Facts
variable {Z : State} {ws : Ws} {f : Nat→Nat} {h h' : Heap} {a b : Addr} {o : FieldType × List Value} {sl : Nat} {v : Value}
theorem SimO.ext (E : Ext h h') (S : SimO Z ws f h a o) : SimO Z ws f h' a o:=by
  unfold SimO at S ⊢
  split at S
  · exact ⟨S.1.ext E,fun n t j q => by obtain ⟨v,h1,h2⟩:=S.2 n t j q; exact ⟨v,h1,h2.ext E⟩⟩
  · obtain ⟨c,h1,h2⟩:=S; exact ⟨c,h1.ext E,h2⟩
  · exact S.elim
theorem SimO.other (W : Wr h h' b sl v) (ne : a ≠ b) (S : SimO Z ws f h a o) : SimO Z ws f h' a o:=by
  unfold SimO at S ⊢
  split at S
  · exact ⟨S.1.wr W,fun n t j q => by obtain ⟨v,h1,h2⟩:=S.2 n t j q; exact ⟨v,h1,h2.other W (Or.inl ne)⟩⟩
  · obtain ⟨c,h1,h2⟩:=S; exact ⟨c,h1.other W ne,h2⟩
  · exact S.elim
theorem Sim.push {k sa n0 : Nat} {H : AHeap} (S : Sim Z ws k sa n0 H h) (E : Ext h h') (hz : h'.size = h.size + 1) (O : SimO Z ws (adr k sa n0) h' h.size o) : Sim Z ws k sa n0 (H ++ [o]) h':=by
  obtain ⟨h1,h2,h3,h4,h5⟩:=S
  refine ⟨by rw [hz,h1,List.length_append,List.length_singleton]; omega,by rw [List.length_append]; omega,h3,h4,fun i o' q => ?_⟩
  rcases Nat.lt_trichotomy i H.length with g | g | g
  · rw [List.getElem?_append_left g] at q; exact (h5 i o' q).ext E
  · subst g
    rw [List.getElem?_append_right (Nat.le_refl _),Nat.sub_self] at q
    cases q
    have e : adr k sa n0 H.length = h.size:=by unfold adr; rw [if_neg (by omega),h1]
    rw [e]; exact O
  · rw [List.getElem?_eq_none (by simp; omega)] at q; cases q
theorem Sim.next {k sa n0 : Nat} {H : AHeap} (S : Sim Z ws k sa n0 H h) : h.size = adr k sa n0 H.length:=by
  obtain ⟨h1,h2,-⟩:=S
  unfold adr; rw [if_neg (by omega),h1]
theorem Wr.upd {k sa n0 i : Nat} {H : AHeap} {o' : FieldType × List Value} (S : Sim Z ws k sa n0 H h) (W : Wr h h' (adr k sa n0 i) sl v) (O : SimO Z ws (adr k sa n0) h' (adr k sa n0 i) o') : Sim Z ws k sa n0 (H.set i o') h':=by
  obtain ⟨h1,h2,h3,h4,h5⟩:=S
  refine ⟨by rw [W.size,h1,List.length_set],by rw [List.length_set]; exact h2,h3,h4,fun j q hq => ?_⟩
  by_cases e : i = j
  · subst e
    rw [List.getElem?_set_self' ] at hq
    cases hi : H[i]? with
    | none => rw [hi] at hq; cases hq
    | some x => rw [hi] at hq; cases hq; exact O
  · rw [List.getElem?_set_ne e] at hq
    exact (h5 j q hq).other W fun g => e (adr_inj h3 h4 g).symm
end Facts
theorem putv_ok {ty : FieldType} {v v' : Value} (f : Nat→Nat) (h : putv ty v = some v') : narrow ty (ren f v) = ren f v'∧fits ty (ren f v') = true:=by
  unfold putv at h
  split at h
  · cases h; exact ⟨rfl,rfl⟩
  · cases h; exact ⟨rfl,fits_nar_bool _⟩
  · cases h; exact ⟨rfl,fits_nar_byte _⟩
  · cases h; exact ⟨rfl,fits_nar_char _⟩
  · cases h; exact ⟨rfl,fits_nar_short _⟩
  · cases h; exact ⟨rfl,rfl⟩
  · cases h; exact ⟨rfl,rfl⟩
  · cases h
theorem size_set (c : Cell) (j : Nat) (v : Value) (f : Nat→Nat) {vs : List Value} {v' : Value} (e : c.slots = (vs.map (ren f)).toArray) (q : v = ren f v') : (c.setSlot j v).slots = ((vs.set j v').map (ren f)).toArray:=by
  subst q
  show c.slots.setIfInBounds j (ren f v') = _
  rw [e,List.setIfInBounds_toArray,List.map_set]
section H
variable {p : Program} {l : Launch} {e : Env} {R : Room} {s : State} {m : MethodId} {args : Array Value} {below : List Frame} {meth : Method} {c : Code} {T : State} {locs : List Loc} {cells slots : Nat}
  {Z : State} {a0 : Array Value} {ws : Ws} {k sa n0 : Nat} {y : MethodName} {pc : Nat} {ls : List Slot} {st : List Value} {H : AHeap}
/-- the point behind one step -/
def Beh (p : Program) (l : Launch) (e : Env) (R : Room) (s : State) (m : MethodId) (args : Array Value) (below : List Frame) (meth : Method) (c : Code) (T : State) (Z : State) (ws : Ws) (k sa n0 cells slots : Nat) (H : AHeap) (g : JFrame) (pc' : Nat) (ls' : List Slot) (st' : List Value) (H' : AHeap) : Prop :=
  ∃ T' locs',Stand p l e R s m args below meth c T' locs' (cells + (H'.length - H.length)) (slots + (tot ws H' - tot ws H))∧Sim Z ws k sa n0 H' T'.heap∧Fr n0 locs' ∧
    ∀ target,Steps p.tables e below (T'.setTop (fr (adr k sa n0) m pc' ls' st')) target→Steps p.tables e below (T.setTop g) target
theorem Beh.stay {g : JFrame} {pc' : Nat} {st' : List Value} {T' : State} (X : Stand p l e R s m args below meth c T' locs cells slots) (S : Sim Z ws k sa n0 H T'.heap) (N : Fr n0 locs)
    (h : ∀ target,Steps p.tables e below (T'.setTop (fr (adr k sa n0) m pc' ls st')) target→Steps p.tables e below (T.setTop g) target) : Beh p l e R s m args below meth c T Z ws k sa n0 cells slots H g pc' ls st' H :=
  ⟨T',locs,by rw [Nat.sub_self,Nat.sub_self]; exact X,S,N,h⟩
theorem hGet_sound (hw : ∀ d ∈ ws,d.before a0 Z = true) (X : Stand p l e R s m args below meth c T locs cells slots) (hx : p.tables.exec = Jvm.exec) (hZ : Z.Warmed39 s.vm) (hown : s.vm.findClass y.cls = some m.cls)
    {i : Nat} (hd : decode c.code pc = .ok (.getfield i,3)) {q : Nat × List Value × AHeap} (hs : hGet ws y.cls i pc H st = some q) (S : Sim Z ws k sa n0 H T.heap) (N : Fr n0 locs) :
    Beh p l e R s m args below meth c T Z ws k sa n0 cells slots H (fr (adr k sa n0) m pc ls st) q.1 ls q.2.1 q.2.2:=by
  unfold hGet at hs
  split at hs
  · rename_i a r
    split at hs
    · rename_i C j C' vs q1 q2
      split at hs
      · rename_i hC; subst hC
        obtain ⟨v,hv,rfl⟩:=Option.map_eq_some_iff.mp hs
        obtain ⟨n,t,r1,r2⟩:=gfR_some q1
        obtain ⟨v',hv',F⟩:=(S.2.2.2.2 a _ q2).2 n t j r2
        cases hv.symm.trans hv'
        obtain ⟨T',X',e',st'⟩:=getF X hx hZ hown (host := "") (Or.inl (hw _ (rFld_mem r1))) Via.refl rfl F (g:=fr (adr k sa n0) m pc ls (.ref a::r)) rfl rfl hd
        exact Beh.stay X' (by rw [e']; exact S) N st'
      · cases hs
    · cases hs
  · cases hs
theorem hPut_sound (hw : ∀ d ∈ ws,d.before a0 Z = true) (X : Stand p l e R s m args below meth c T locs cells slots) (hx : p.tables.exec = Jvm.exec) (hZ : Z.Warmed39 s.vm) (hown : s.vm.findClass y.cls = some m.cls) (hnm : meth.name = y.name)
    {i : Nat} (hd : decode c.code pc = .ok (.putfield i,3)) {q : Nat × List Value × AHeap} (hs : hPut ws k y.cls y.name i pc H st = some q) (S : Sim Z ws k sa n0 H T.heap) (N : Fr n0 locs) :
    Beh p l e R s m args below meth c T Z ws k sa n0 cells slots H (fr (adr k sa n0) m pc ls st) q.1 ls q.2.1 q.2.2:=by
  unfold hPut at hs
  split at hs
  · rename_i v a r
    split at hs
    · rename_i C j ty C' vs q1 q2
      split at hs
      · rename_i hC; obtain ⟨rfl,hk,hj⟩:=hC
        obtain ⟨v',hv,rfl⟩:=Option.map_eq_some_iff.mp hs
        obtain ⟨n,t,r1,r2,r3,r4,⟨ki,r5⟩,r6⟩:=pfR_some q1
        have SO:=S.2.2.2.2 a _ q2
        obtain ⟨w,hw',F⟩:=SO.2 n t j r2
        obtain ⟨g1,g2⟩:=putv_ok (adr k sa n0) hv
        obtain ⟨T',h',X',e',W,st'⟩:=putFN X hx hZ hown (hw _ (rFld_mem r1)) Via.refl rfl F SO.1 (r4.imp (fun q => hw _ q) fun q => ⟨hw _ q.1,q.2.1,hnm.trans q.2.2⟩) (hw _ r5) r3 g1 g2 (g:=fr (adr k sa n0) m pc ls (v::.ref a::r)) rfl rfl hd
        have LL : ∀ {n' t' : String},(n',t') ∈ olay ws C→Laid Z a0 C C n' t':=fun q => (lay_mem q).1.imp (fun q => hw _ q) (fun q => hw _ q)
        have O' : SimO Z ws (adr k sa n0) h' (adr k sa n0 a) (.object C,vs.set j v'):=by
          refine ⟨SO.1.wr W,fun n' t' j' q' => ?_⟩
          obtain ⟨u,hu,F'⟩:=SO.2 n' t' j' q'
          by_cases ej : j = j'
          · subst ej
            obtain ⟨rfl,rfl⟩:=fidx_inj r2 q'
            exact ⟨v',by rw [List.getElem?_set_self hj],F.same W⟩
          · refine ⟨u,by rw [List.getElem?_set_ne ej]; exact hu,F'.other W (Or.inr ?_)⟩
            obtain ⟨-,ty',p'⟩:=lay_mem (fidx_mem q')
            refine slot_ne (LL (fidx_mem q')) (LL (fidx_mem r2)) (fun en => ?_) p' r3
            rcases r6 n' t' (fidx_mem q') with g | g
            · exact g en
            · subst en g; rw [r2] at q'; exact ej (Option.some.inj q')
        refine ⟨T',_,?_,by rw [e']; exact Wr.upd S W O',Fr.snoc X' N (adr_ge hk),st'⟩
        show Stand p l e R s m args below meth c T' _ (cells + ((H.set a (.object C,vs.set j v')).length - H.length)) (slots + (tot ws (H.set a (.object C,vs.set j v')) - tot ws H))
        rw [List.length_set,tot_set (o:=(.object C,vs)) (o':=(.object C,vs.set j v')) q2 rfl,Nat.sub_self,Nat.sub_self]
        exact X'
      · cases hs
    · cases hs
  · cases hs
theorem hNew_sound (hw : ∀ d ∈ ws,d.before a0 Z = true) (X : Stand p l e R s m args below meth c T locs cells slots) (hx : p.tables.exec = Jvm.exec) (hZ : Z.Warmed39 s.vm) (hown : s.vm.findClass y.cls = some m.cls)
    {i : Nat} (hd : decode c.code pc = .ok (.new i,3)) {q : Nat × List Value × AHeap} (hs : hNew ws y.cls i pc H st = some q) (S : Sim Z ws k sa n0 H T.heap) (N : Fr n0 locs)
    (hc : cells + (q.2.2.length - H.length)≤R.cells) (hl : slots + (tot ws q.2.2 - tot ws H)≤R.slots) (hz0 : T.heap.size = s.heap.size + cells) :
    Beh p l e R s m args below meth c T Z ws k sa n0 cells slots H (fr (adr k sa n0) m pc ls st) q.1 ls q.2.1 q.2.2:=by
  unfold hNew at hs
  split at hs
  · rename_i C q1
    split at hs
    · rename_i g; cases hs
      obtain ⟨ki,hki⟩:=Option.isSome_iff_exists.mp g.1
      have ec : (H ++ [(FieldType.object C,(olay ws C).map dflt)]).length - H.length = 1:=by simp
      have es : tot ws (H ++ [(FieldType.object C,(olay ws C).map dflt)]) - tot ws H = ki:=by
        rw [tot_app]; simp [cost,hki]
      dsimp only at hc hl ⊢
      rw [ec] at hc; rw [es] at hl
      have hz:=S.next
      obtain ⟨T',h',X',e',E,A,D,-,st'⟩:=newO X hx hZ hown (hw _ (rCls_mem q1)) (hw _ (rInst_mem hki)) (hw _ (hasInit_mem g.2)) rfl (g:=fr (adr k sa n0) m pc ls st) rfl hd hc hl
      have hz' : h'.size = T.heap.size + 1:=by
        have u1:=X'.heapSize
        have a1 : (T.heap.size : Nat) < h'.size:=A.lt
        rw [e'] at u1
        omega
      refine ⟨T',locs,by rw [ec,es]; exact X',?_,N,?_⟩
      · rw [e']
        refine S.push E hz' ⟨A,fun n t j q => ?_⟩
        have hm:=fidx_mem q
        obtain ⟨q2,ty,q3⟩:=lay_mem hm
        refine ⟨dflt (n,t),by rw [List.getElem?_map,idx_get q]; rfl,?_⟩
        have F:=D (O:=C) (nm:=n) (d:=t) (q2.imp (fun q => hw _ q) (fun q => hw _ q)) q3
        have e3 : ren (adr k sa n0) (dflt (n,t)) = defaultValue ty:=by simp only [dflt,q3,ren_dflt]
        rw [e3]; exact F
      · intro target ht
        rw [hz] at st'
        exact st' target ht
    · cases hs
  · cases hs
theorem hNewA_sound (hw : ∀ d ∈ ws,d.before a0 Z = true) (X : Stand p l e R s m args below meth c T locs cells slots) (hx : p.tables.exec = Jvm.exec) (hZ : Z.Warmed39 s.vm)
    {aty : ArrayType} (hd : decode c.code pc = .ok (.newarray aty,2)) {q : Nat × List Value × AHeap} (hs : hNewA ws aty pc H st = some q) (S : Sim Z ws k sa n0 H T.heap) (N : Fr n0 locs)
    (hc : cells + (q.2.2.length - H.length)≤R.cells) (hl : slots + (tot ws q.2.2 - tot ws H)≤R.slots) (hz0 : T.heap.size = s.heap.size + cells) :
    Beh p l e R s m args below meth c T Z ws k sa n0 cells slots H (fr (adr k sa n0) m pc ls st) q.1 ls q.2.1 q.2.2:=by
  unfold hNewA at hs
  split at hs
  · rename_i n r
    split at hs
    · rename_i g; cases hs
      obtain ⟨g1,g2,g3⟩:=g
      have ec : (H ++ [(FieldType.array (newarray.typeOf aty),List.replicate n.toNatClampNeg (defaultValue (newarray.typeOf aty)))]).length - H.length = 1:=by simp
      have es : tot ws (H ++ [(FieldType.array (newarray.typeOf aty),List.replicate n.toNatClampNeg (defaultValue (newarray.typeOf aty)))]) - tot ws H = n.toNatClampNeg:=by
        rw [tot_app]; simp [cost]
      dsimp only at hc hl ⊢
      rw [ec] at hc; rw [es] at hl
      have hz:=S.next
      obtain ⟨T',h',cA,X',e',E,A,st'⟩:=newP X hx hZ (hw _ (hasArr_mem g1)) rfl (g:=fr (adr k sa n0) m pc ls (.int n::r)) rfl hd rfl g2 (cap:=n.toNatClampNeg) (Nat.le_refl _) g3 hc hl
      have hz' : h'.size = T.heap.size + 1:=by
        have u1:=X'.heapSize
        have a1 : (T.heap.size : Nat) < h'.size:=A.lt
        rw [e'] at u1
        omega
      refine ⟨T',locs,by rw [ec,es]; exact X',?_,N,?_⟩
      · rw [e']
        refine S.push E hz' ⟨_,A,?_⟩
        simp [newA,ren_dflt]
      · intro target ht
        rw [hz] at st'
        exact st' target ht
    · cases hs
  · cases hs
theorem hLd_some {ok : FieldType→Bool} {q : Nat × List Value × AHeap} (hs : hLd ok pc H st = some q) : ∃ j a r ty vs v,st = .int j::.ref a::r∧H[a]? = some (.array ty,vs)∧ok ty = true∧¬ j < 0∧vs[j.toNatClampNeg]? = some v∧q = (pc + 1,v::r,H):=by
  unfold hLd at hs
  split at hs
  · split at hs
    · split at hs
      · rename_i g
        obtain ⟨v,h1,h2⟩:=Option.map_eq_some_iff.mp hs
        exact ⟨_,_,_,_,_,v,rfl,by assumption,g.1,g.2,h1,h2.symm⟩
      · cases hs
    · cases hs
  · cases hs
theorem hSt_some {ok : FieldType→Bool} {q : Nat × List Value × AHeap} (hs : hSt ok k pc H st = some q) : ∃ v j a r ty vs v',st = v::.int j::.ref a::r∧H[a]? = some (.array ty,vs)∧ok ty = true∧k≤a∧¬ j < 0∧j.toNatClampNeg < vs.length∧putv ty v = some v'∧q = (pc + 1,r,H.set a (.array ty,vs.set j.toNatClampNeg v')):=by
  unfold hSt at hs
  split at hs
  · split at hs
    · split at hs
      · rename_i g
        obtain ⟨v,h1,h2⟩:=Option.map_eq_some_iff.mp hs
        exact ⟨_,_,_,_,_,_,v,rfl,by assumption,g.1,g.2.1,g.2.2.1,g.2.2.2,h1,h2.symm⟩
      · cases hs
    · cases hs
  · cases hs
theorem hLen_some {q : Nat × List Value × AHeap} (hs : hLen pc H st = some q) : ∃ a r ty vs,st = .ref a::r∧H[a]? = some (.array ty,vs)∧q = (pc + 1,.int vs.length.toInt32::r,H):=by
  unfold hLen at hs
  split at hs
  · split at hs
    · cases hs; exact ⟨_,_,_,_,rfl,by assumption,rfl⟩
    · cases hs
  · cases hs
/-- behind a store into an array -/
theorem st_beh {T' : State} {h' : Heap} {a j : Nat} {ty : FieldType} {vs : List Value} {v' : Value} {r : List Value} {g : JFrame} (X' : Stand p l e R s m args below meth c T' (locs ++ [⟨adr k sa n0 a,j⟩]) cells slots) (e' : T'.heap = h') (W : Wr T.heap h' (adr k sa n0 a) j (ren (adr k sa n0) v'))
    (S : Sim Z ws k sa n0 H T.heap) (N : Fr n0 locs) (q2 : H[a]? = some (.array ty,vs)) (hk : k≤a)
    (st' : ∀ target,Steps p.tables e below (T'.setTop (fr (adr k sa n0) m (pc + 1) ls r)) target→Steps p.tables e below (T.setTop g) target) :
    Beh p l e R s m args below meth c T Z ws k sa n0 cells slots H g (pc + 1) ls r (H.set a (.array ty,vs.set j v')):=by
  obtain ⟨cl,A,es⟩:=S.2.2.2.2 a _ q2
  refine ⟨T',_,?_,by rw [e']; exact Wr.upd S W ⟨_,A.same W,size_set cl j _ _ es rfl⟩,Fr.snoc X' N (adr_ge hk),st'⟩
  rw [List.length_set,tot_set (o:=(.array ty,vs)) (o':=(.array ty,vs.set j v')) q2 (by simp [cost]),Nat.sub_self,Nat.sub_self]
  exact X'
set_option maxHeartbeats 1000000 in
theorem hstep_sound (hw : ∀ d ∈ ws,d.before a0 Z = true) (X : Stand p l e R s m args below meth c T locs cells slots) (hx : p.tables.exec = Jvm.exec) (hZ : Z.Warmed39 s.vm) (hown : s.vm.findClass y.cls = some m.cls) (hnm : meth.name = y.name)
    {ins : Instr} {len : Nat} (hd : decode c.code pc = .ok (ins,len)) {q : Nat × List Value × AHeap} (hs : hstep ws k y ins len pc st H = some q) (S : Sim Z ws k sa n0 H T.heap) (N : Fr n0 locs)
    (hc : cells + (q.2.2.length - H.length)≤R.cells) (hl : slots + (tot ws q.2.2 - tot ws H)≤R.slots) (hz0 : T.heap.size = s.heap.size + cells) :
    Beh p l e R s m args below meth c T Z ws k sa n0 cells slots H (fr (adr k sa n0) m pc ls st) q.1 ls q.2.1 q.2.2:=by
  unfold hstep at hs
  split at hs
  · obtain ⟨rfl,hs⟩:=chk_some hs
    exact hGet_sound hw X hx hZ hown hd hs S N
  · obtain ⟨rfl,hs⟩:=chk_some hs
    exact hPut_sound hw X hx hZ hown hnm hd hs S N
  · obtain ⟨rfl,hs⟩:=chk_some hs
    exact hNew_sound hw X hx hZ hown hd hs S N hc hl hz0
  · obtain ⟨rfl,hs⟩:=chk_some hs
    exact hNewA_sound hw X hx hZ hd hs S N hc hl hz0
  · obtain ⟨rfl,hs⟩:=chk_some hs
    obtain ⟨j,a,r,ty,vs,v,rfl,q2,ho,hj,hv,rfl⟩:=hLd_some hs
    obtain rfl : ty = _:=of_decide_eq_true ho
    obtain ⟨cl,A,es⟩:=S.2.2.2.2 a _ q2
    have hlt:=(List.getElem?_eq_some_iff.mp hv).1
    exact Beh.stay X S N fun target ht => X.iaload hx (j:=j) (v:=ren (adr k sa n0) v) A.1 (State.isArrayOf_alike hZ.alike A.2.1) A.2.2 (fun g => g.elim hj fun g => by rw [es] at g; simp at g; omega) (by rw [es,List.getElem?_toArray,List.getElem?_map,hv]; rfl) (g:=fr (adr k sa n0) m pc ls (.int j::.ref a::r)) rfl rfl hd target ht
  · obtain ⟨rfl,hs⟩:=chk_some hs
    obtain ⟨j,a,r,ty,vs,v,rfl,q2,ho,hj,hv,rfl⟩:=hLd_some hs
    obtain rfl : ty = _:=of_decide_eq_true ho
    obtain ⟨cl,A,es⟩:=S.2.2.2.2 a _ q2
    have hlt:=(List.getElem?_eq_some_iff.mp hv).1
    exact Beh.stay X S N fun target ht => X.caload hx (j:=j) (v:=ren (adr k sa n0) v) A.1 (State.isArrayOf_alike hZ.alike A.2.1) A.2.2 (fun g => g.elim hj fun g => by rw [es] at g; simp at g; omega) (by rw [es,List.getElem?_toArray,List.getElem?_map,hv]; rfl) (g:=fr (adr k sa n0) m pc ls (.int j::.ref a::r)) rfl rfl hd target ht
  · obtain ⟨rfl,hs⟩:=chk_some hs
    obtain ⟨j,a,r,ty,vs,v,rfl,q2,ho,hj,hv,rfl⟩:=hLd_some hs
    obtain rfl : ty = _:=of_decide_eq_true ho
    obtain ⟨cl,A,es⟩:=S.2.2.2.2 a _ q2
    have hlt:=(List.getElem?_eq_some_iff.mp hv).1
    exact Beh.stay X S N fun target ht => X.laload hx (j:=j) (v:=ren (adr k sa n0) v) A.1 (State.isArrayOf_alike hZ.alike A.2.1) A.2.2 (fun g => g.elim hj fun g => by rw [es] at g; simp at g; omega) (by rw [es,List.getElem?_toArray,List.getElem?_map,hv]; rfl) (g:=fr (adr k sa n0) m pc ls (.int j::.ref a::r)) rfl rfl hd target ht
  · obtain ⟨rfl,hs⟩:=chk_some hs
    obtain ⟨j,a,r,ty,vs,v,rfl,q2,ho,hj,hv,rfl⟩:=hLd_some hs
    obtain ⟨cl,A,es⟩:=S.2.2.2.2 a _ q2
    have hlt:=(List.getElem?_eq_some_iff.mp hv).1
    simp only [okB,Bool.or_eq_true,decide_eq_true_eq] at ho
    rcases ho with rfl | rfl
    · exact Beh.stay X S N fun target ht => X.baloadBytes hx (j:=j) (v:=ren (adr k sa n0) v) A.1 (State.isArrayOf_alike hZ.alike A.2.1) A.2.2 (fun g => g.elim hj fun g => by rw [es] at g; simp at g; omega) (by rw [es,List.getElem?_toArray,List.getElem?_map,hv]; rfl) (g:=fr (adr k sa n0) m pc ls (.int j::.ref a::r)) rfl rfl hd target ht
    · exact Beh.stay X S N fun target ht => X.baloadBooleans hx (j:=j) (v:=ren (adr k sa n0) v) A.1 (State.isArrayOf_alike hZ.alike A.2.1) A.2.2 (fun g => g.elim hj fun g => by rw [es] at g; simp at g; omega) (by rw [es,List.getElem?_toArray,List.getElem?_map,hv]; rfl) (g:=fr (adr k sa n0) m pc ls (.int j::.ref a::r)) rfl rfl hd target ht
  · obtain ⟨rfl,hs⟩:=chk_some hs
    obtain ⟨v,j,a,r,ty,vs,v',rfl,q2,ho,hk,hj,hlt,hv,rfl⟩:=hSt_some hs
    obtain rfl : ty = _:=of_decide_eq_true ho
    obtain ⟨cl,A,es⟩:=S.2.2.2.2 a _ q2
    cases v <;> simp only [putv,Option.some.injEq,reduceCtorEq] at hv
    subst hv
    obtain ⟨T',h',X',e',W,st'⟩:=stI X hx hZ rfl A (j:=j) (fun g => g.elim hj fun g => by rw [es] at g; simp at g; omega) (g:=fr (adr k sa n0) m pc ls (.int _::.int j::.ref a::r)) rfl rfl hd
    exact st_beh X' e' W S N q2 hk st'
  · obtain ⟨rfl,hs⟩:=chk_some hs
    obtain ⟨v,j,a,r,ty,vs,v',rfl,q2,ho,hk,hj,hlt,hv,rfl⟩:=hSt_some hs
    obtain rfl : ty = _:=of_decide_eq_true ho
    obtain ⟨cl,A,es⟩:=S.2.2.2.2 a _ q2
    cases v <;> simp only [putv,Option.some.injEq,reduceCtorEq] at hv
    subst hv
    obtain ⟨T',h',X',e',W,st'⟩:=stC X hx hZ rfl A (j:=j) (fun g => g.elim hj fun g => by rw [es] at g; simp at g; omega) (g:=fr (adr k sa n0) m pc ls (.int _::.int j::.ref a::r)) rfl rfl hd
    exact st_beh X' e' W S N q2 hk st'
  · obtain ⟨rfl,hs⟩:=chk_some hs
    obtain ⟨v,j,a,r,ty,vs,v',rfl,q2,ho,hk,hj,hlt,hv,rfl⟩:=hSt_some hs
    obtain rfl : ty = _:=of_decide_eq_true ho
    obtain ⟨cl,A,es⟩:=S.2.2.2.2 a _ q2
    cases v <;> simp only [putv,Option.some.injEq,reduceCtorEq] at hv
    subst hv
    obtain ⟨T',h',X',e',W,st'⟩:=stJ X hx hZ rfl A (j:=j) (fun g => g.elim hj fun g => by rw [es] at g; simp at g; omega) (g:=fr (adr k sa n0) m pc ls (.long _::.int j::.ref a::r)) rfl rfl hd
    exact st_beh X' e' W S N q2 hk st'
  · obtain ⟨rfl,hs⟩:=chk_some hs
    obtain ⟨v,j,a,r,ty,vs,v',rfl,q2,ho,hk,hj,hlt,hv,rfl⟩:=hSt_some hs
    obtain ⟨cl,A,es⟩:=S.2.2.2.2 a _ q2
    simp only [okB,Bool.or_eq_true,decide_eq_true_eq] at ho
    rcases ho with rfl | rfl
    · cases v <;> simp only [putv,Option.some.injEq,reduceCtorEq] at hv
      subst hv
      obtain ⟨T',h',X',e',W,st'⟩:=stB X hx hZ rfl A (j:=j) (fun g => g.elim hj fun g => by rw [es] at g; simp at g; omega) (g:=fr (adr k sa n0) m pc ls (.int _::.int j::.ref a::r)) rfl rfl hd
      exact st_beh X' e' W S N q2 hk st'
    · cases v <;> simp only [putv,Option.some.injEq,reduceCtorEq] at hv
      subst hv
      obtain ⟨T',h',X',e',W,st'⟩:=stZ X hx hZ rfl A (j:=j) (fun g => g.elim hj fun g => by rw [es] at g; simp at g; omega) (g:=fr (adr k sa n0) m pc ls (.int _::.int j::.ref a::r)) rfl rfl hd
      exact st_beh X' e' W S N q2 hk st'
  · obtain ⟨rfl,hs⟩:=chk_some hs
    obtain ⟨a,r,ty,vs,rfl,q2,rfl⟩:=hLen_some hs
    obtain ⟨cl,A,es⟩:=S.2.2.2.2 a _ q2
    have ez : cl.slots.size = vs.length:=by rw [es]; simp
    refine Beh.stay X S N fun target ht => X.arraylength hx (cell:=cl) A.1 (State.isArrayOf_alike hZ.alike A.2.1) (g:=fr (adr k sa n0) m pc ls (.ref a::r)) rfl rfl hd target ?_
    rw [ez]; exact ht
  · obtain ⟨rfl,hs⟩:=chk_some hs
    obtain ⟨v,hv,rfl⟩:=Option.map_eq_some_iff.mp hs
    exact Beh.stay X S N (X.ldcInt hx hown (mvT hZ (hw _ (rCon_mem hv))) (g:=fr (adr k sa n0) m pc ls st) rfl hd)
  · obtain ⟨rfl,hs⟩:=chk_some hs
    obtain ⟨v,hv,rfl⟩:=Option.map_eq_some_iff.mp hs
    exact Beh.stay X S N (X.ldcwInt hx hown (mvT hZ (hw _ (rCon_mem hv))) (g:=fr (adr k sa n0) m pc ls st) rfl hd)
  · obtain ⟨rfl,hs⟩:=chk_some hs
    obtain ⟨v,hv,rfl⟩:=Option.map_eq_some_iff.mp hs
    exact Beh.stay X S N (X.ldc2Long hx hown (mvT hZ (hw _ (rConL_mem hv))) (g:=fr (adr k sa n0) m pc ls st) rfl hd)
  · cases hs
end H
theorem hstep_size {ws : Ws} {k : Nat} {y : MethodName} {ins : Instr} {len pc : Nat} {st : List Value} {H : AHeap} {q : Nat × List Value × AHeap} (hs : hstep ws k y ins len pc st H = some q) : H.length≤q.2.2.length∧tot ws H≤tot ws q.2.2:=by
  unfold hstep at hs
  split at hs
  · obtain ⟨rfl,hs⟩:=chk_some hs
    unfold hGet at hs
    split at hs
    · split at hs
      · split at hs
        · obtain ⟨v,-,rfl⟩:=Option.map_eq_some_iff.mp hs; exact ⟨Nat.le_refl _,Nat.le_refl _⟩
        · cases hs
      · cases hs
    · cases hs
  · obtain ⟨rfl,hs⟩:=chk_some hs
    unfold hPut at hs
    split at hs
    · split at hs
      · rename_i C j ty C' vs q1 q2
        split at hs
        · obtain ⟨v,-,rfl⟩:=Option.map_eq_some_iff.mp hs
          exact ⟨Nat.le_of_eq (by rw [List.length_set]),Nat.le_of_eq (tot_set (o:=(.object C',vs)) (o':=(.object C',vs.set j v)) q2 rfl).symm⟩
        · cases hs
      · cases hs
    · cases hs
  · obtain ⟨rfl,hs⟩:=chk_some hs
    unfold hNew at hs
    split at hs
    · split at hs
      · cases hs; exact ⟨by simp,by rw [tot_app]; omega⟩
      · cases hs
    · cases hs
  · obtain ⟨rfl,hs⟩:=chk_some hs
    unfold hNewA at hs
    split at hs
    · split at hs
      · cases hs; exact ⟨by simp,by rw [tot_app]; omega⟩
      · cases hs
    · cases hs
  all_goals first
    | (obtain ⟨rfl,hs⟩:=chk_some hs; obtain ⟨j,a,r,ty,vs,v,rfl,q2,ho,hj,hv,rfl⟩:=hLd_some hs; exact ⟨Nat.le_refl _,Nat.le_refl _⟩)
    | (obtain ⟨rfl,hs⟩:=chk_some hs; obtain ⟨v,j,a,r,ty,vs,v',rfl,q2,ho,hk,hj,hlt,hv,rfl⟩:=hSt_some hs; exact ⟨Nat.le_of_eq (by rw [List.length_set]),Nat.le_of_eq (tot_set (o:=(.array ty,vs)) (o':=(.array ty,vs.set _ v')) q2 (by simp [cost])).symm⟩)
    | (obtain ⟨rfl,hs⟩:=chk_some hs; obtain ⟨a,r,ty,vs,rfl,q2,rfl⟩:=hLen_some hs; exact ⟨Nat.le_refl _,Nat.le_refl _⟩)
    | (obtain ⟨rfl,hs⟩:=chk_some hs; obtain ⟨v,hv,rfl⟩:=Option.map_eq_some_iff.mp hs; exact ⟨Nat.le_refl _,Nat.le_refl _⟩)
    | (cases hs; done)
end Jvm.Own
namespace Jvm.Own
open Sem ClassFile Op Lib Jvm.Stand Jvm.Free Jvm.LawKit Jvm.RoadKit
/-! OWN 5: the run is the machine's -/
theorem ent_ren (f : Nat→Nat) : ∀ as : List Value,ent (as.map (ren f)) = (ent as).map (renS f)
  | [] => rfl
  | v::r => by
    simp only [List.map_cons,ent,ren_cat,ent_ren f r]
    split <;> rfl
theorem fill_eq : ∀ (as : List Value) (acc : Array Slot),as.foldl (fun acc v => if v.category = 2 then (acc.push (.val v)).push .second else acc.push (.val v)) acc = acc ++ (ent as).toArray
  | [],acc => by simp [ent]
  | v::r,acc => by
    simp only [List.foldl_cons,ent]
    split
    · rw [fill_eq r]; simp [← Array.toList_inj]
    · rw [fill_eq r]; simp [← Array.toList_inj]
theorem entry_eq (f : Nat→Nat) (m : MethodId) (as : List Value) (mx : Nat) : entryFrame m (as.map (ren f)).toArray mx = fr f m 0 (entry as mx) []:=by
  have h : argsToLocals (as.map (ren f)).toArray mx = ((entry as mx).map (renS f)).toArray:=by
    unfold argsToLocals entry
    simp only [List.foldl_toArray']
    rw [fill_eq,ent_ren]
    simp [← Array.toList_inj,renS]
  unfold entryFrame
  rw [h]; rfl
theorem entry_len {as : List Value} {mx : Nat} (h : (ent as).length≤mx) : (entry as mx).length = mx:=by simp [entry]; omega
theorem wsum_ren (f : Nat→Nat) (st : List Value) : ((st.map (ren f)).map fun v => v.category).sum = wsum st:=by
  unfold wsum
  rw [List.map_map]
  congr 1
  apply List.map_congr_left
  intro v _
  exact ren_cat f v
section Inv
variable {ws : Ws} {dn : Dn} {k : Nat} {y : MethodName} {bytes : ByteArray} {ret : Option FieldType} {pc : Nat} {ls : List Slot} {st : List Value} {H : AHeap}
theorem cR_some {i : Nat} {y' : MethodName} {b : ByteArray} {mx na sl : Nat} {r : Option FieldType} (h : cR ws dn y i = some (y',b,mx,r,na,sl)) :
    Jvm.Cond.methodLink y.cls i y' ∈ ws∧Jvm.Cond.code y' b mx r ∈ ws∧Jvm.Cond.initialized y'.cls ∈ ws∧Jvm.plainName y'.cls = true∧(y'.cls ≠ "java/lang/invoke/MethodHandle" ∧ y'.cls ≠ "java/lang/invoke/VarHandle")∧rCode ws y' = some (b,mx,r) ∧
    ∃ f' l' f l sig,dnOf dn y' = some (f',l')∧dnOf dn y = some (f,l)∧parseMethodDescriptor y'.desc = some sig∧na = sig.parameters.length∧f' + 1≤f∧sl + (mx + 11) + l'≤l:=by
  unfold cR at h
  split at h
  · cases h
  · rename_i z q1
    split at h
    · rename_i b' mx' r' f' l' f l sig q2 q3 q4 q5
      split at h
      · rename_i g
        cases h
        obtain ⟨g1,g2,g3,g4,g5,g6⟩:=g
        exact ⟨rMth_mem q1,rCode_mem q2,hasInit_mem g1,g2,⟨g3,g4⟩,q2,f',l',f,l,sig,q3,q4,q5,rfl,g5,by omega⟩
      · cases h
    · cases h
theorem act_ret {v : Option Value} (h : act ws dn k y bytes ret pc ls st H = some (.inl v)) : (∃ z r t,decode bytes pc = .ok (.ireturn,1)∧st = .int z::r∧ret = some t∧(t = .int ∨ t = .boolean ∨ t = .byte ∨ t = .char ∨ t = .short)∧v = some (.int (nar t z))) ∨
    (∃ z,decode bytes pc = .ok (.lreturn,1)∧st = [.long z]∧ret = some .long∧v = some (.long z)) ∨ (decode bytes pc = .ok (.return_,1)∧st = []∧ret = none∧v = none):=by
  unfold act at h
  split at h
  · cases h
  rename_i ins len hd
  split at h
  · cases h
  split at h
  · cases h
  unfold cstep at h
  split at h
  · obtain ⟨rfl,h⟩:=chk_some h
    split at h
    · split at h
      · rename_i g; cases h; exact Or.inl ⟨_,_,_,hd,rfl,rfl,g,rfl⟩
      · cases h
    · cases h
  · obtain ⟨rfl,h⟩:=chk_some h
    split at h
    · cases h; exact Or.inr (Or.inl ⟨_,hd,rfl,rfl,rfl⟩)
    · cases h
  · obtain ⟨rfl,h⟩:=chk_some h
    split at h
    · cases h; exact Or.inr (Or.inr ⟨hd,rfl,rfl,rfl⟩)
    · cases h
  · obtain ⟨rfl,h⟩:=chk_some h
    split at h
    · split at h <;> cases h
    · cases h
  · obtain ⟨rfl,h⟩:=chk_some h
    split at h
    · split at h
      · split at h <;> cases h
      · cases h
    · split at h
      · split at h
        · split at h <;> cases h
        · cases h
      · cases h
  · obtain ⟨rfl,h⟩:=chk_some h
    split at h
    · split at h
      · split at h
        · split at h <;> cases h
        · cases h
      · cases h
    · cases h
  · cases h
theorem act_step {pc' : Nat} {ls' : List Slot} {st' : List Value} {H' : AHeap} (h : act ws dn k y bytes ret pc ls st H = some (.inr (.inl (pc',ls',st',H')))) : ∃ ins len,decode bytes pc = .ok (ins,len) ∧
    ((xstep ins len pc ls st = some (pc',ls',st')∧H' = H) ∨ (ls' = ls∧hstep ws k y ins len pc st H = some (pc',st',H')) ∨
     (∃ i sl a r,ins = .invokespecial i∧len = 3∧oR ws dn y i = some sl∧st = .ref a::r∧wsum r≤sl∧pc' = pc + 3∧ls' = ls∧st' = r∧H' = H)):=by
  unfold act at h
  split at h
  · cases h
  rename_i ins len hd
  refine ⟨ins,len,hd,?_⟩
  split at h
  · rename_i g; cases h; exact Or.inl ⟨g,rfl⟩
  split at h
  · rename_i g; cases h; exact Or.inr (Or.inl ⟨rfl,g⟩)
  unfold cstep at h
  split at h
  · obtain ⟨rfl,h⟩:=chk_some h
    split at h
    · split at h <;> cases h
    · cases h
  · obtain ⟨rfl,h⟩:=chk_some h
    split at h <;> cases h
  · obtain ⟨rfl,h⟩:=chk_some h
    split at h <;> cases h
  · obtain ⟨rfl,h⟩:=chk_some h
    split at h
    · split at h <;> cases h
    · cases h
  · obtain ⟨rfl,h⟩:=chk_some h
    split at h
    · rename_i sl ho
      split at h
      · split at h
        · rename_i g; cases h; exact Or.inr (Or.inr ⟨_,sl,_,_,rfl,rfl,ho,rfl,g,rfl,rfl,rfl,rfl⟩)
        · cases h
      · cases h
    · split at h
      · split at h
        · split at h <;> cases h
        · cases h
      · cases h
  · obtain ⟨rfl,h⟩:=chk_some h
    split at h
    · split at h
      · split at h
        · split at h <;> cases h
        · cases h
      · cases h
    · cases h
  · cases h
/-- the three kinds of call -/
theorem act_call {y' : MethodName} {b : ByteArray} {r : Option FieldType} {en : List Slot} {rest : List Value} (h : act ws dn k y bytes ret pc ls st H = some (.inr (.inr (y',b,r,en,rest)))) : ∃ i mx na sl as,cR ws dn y i = some (y',b,mx,r,na,sl)∧en = entry as mx∧(ent as).length≤mx∧wsum rest≤sl ∧
    ((decode bytes pc = .ok (.invokestatic i,3)∧Jvm.Cond.static y' ∈ ws∧as.length = na∧st = as.reverse ++ rest) ∨
     (∃ a as',as = .ref a::as'∧as'.length = na∧st = as'.reverse ++ .ref a::rest∧Jvm.Cond.instanceMethod y' ∈ ws ∧
      ((decode bytes pc = .ok (.invokespecial i,3)∧y'.name = "<init>" ∧ r = none) ∨
       (decode bytes pc = .ok (.invokevirtual i,3)∧∃ C vs,H[a]? = some (.object C,vs)∧((Jvm.Cond.privateMethod y' ∈ ws∧∃ ki,Jvm.Cond.instantiable y'.cls ki ∈ ws) ∨ (Jvm.Cond.declares y' ∈ ws∧Jvm.Cond.selects y'.cls y' y' ∈ ws∧C = y'.cls)))))):=by
  unfold act at h
  split at h
  · cases h
  rename_i ins len hd
  split at h
  · cases h
  split at h
  · cases h
  unfold cstep at h
  split at h
  · obtain ⟨rfl,h⟩:=chk_some h
    split at h
    · split at h <;> cases h
    · cases h
  · obtain ⟨rfl,h⟩:=chk_some h
    split at h <;> cases h
  · obtain ⟨rfl,h⟩:=chk_some h
    split at h <;> cases h
  · rename_i i _ _
    obtain ⟨rfl,h⟩:=chk_some h
    split at h
    · rename_i y1 b1 mx r1 na sl hq
      split at h
      · rename_i g
        cases h
        unfold sR at hq
        split at hq
        · rename_i q hc
          split at hq
          · rename_i hs
            cases hq
            refine ⟨i,mx,na,sl,_,hc,rfl,g.2.2,g.2.1,Or.inl ⟨hd,hasStat_mem hs,by simp; omega,by simp⟩⟩
          · cases hq
        · cases hq
      · cases h
    · cases h
  · rename_i i _ _
    obtain ⟨rfl,h⟩:=chk_some h
    split at h
    · split at h
      · split at h <;> cases h
      · cases h
    · split at h
      · rename_i y1 b1 mx r1 na sl hq
        split at h
        · rename_i a rest' hdrop
          split at h
          · rename_i g
            cases h
            unfold nR at hq
            split at hq
            · rename_i q hc
              split at hq
              · rename_i hs
                cases hq
                refine ⟨i,mx,na,sl,_,hc,rfl,g.2.1,g.1,Or.inr ⟨a,_,rfl,by simp; omega,?_,hasIM_mem hs.2.1,Or.inl ⟨hd,hs.1,hs.2.2⟩⟩⟩
                rw [List.reverse_reverse,← hdrop,List.take_append_drop]
              · cases hq
            · cases hq
          · cases h
        · cases h
      · cases h
  · rename_i i _ _
    obtain ⟨rfl,h⟩:=chk_some h
    split at h
    · rename_i pv y1 b1 mx r1 na sl hq
      split at h
      · rename_i a rest' hdrop
        split at h
        · rename_i C vs hH
          split at h
          · rename_i g
            cases h
            unfold vR at hq
            split at hq
            · rename_i q hc
              split at hq
              · rename_i hs
                split at hq
                · rename_i hp; cases hq
                  obtain ⟨ki,hki⟩:=Option.isSome_iff_exists.mp hp.2
                  exact ⟨i,mx,na,sl,_,hc,rfl,g.2.2.1,g.2.1,Or.inr ⟨a,_,rfl,by simp; omega,by rw [List.reverse_reverse,← hdrop,List.take_append_drop],hasIM_mem hs,Or.inr ⟨hd,C,vs,hH,Or.inl ⟨hasPriv_mem hp.1,ki,rInst_mem hki⟩⟩⟩⟩
                · split at hq
                  · rename_i hp; cases hq
                    exact ⟨i,mx,na,sl,_,hc,rfl,g.2.2.1,g.2.1,Or.inr ⟨a,_,rfl,by simp; omega,by rw [List.reverse_reverse,← hdrop,List.take_append_drop],hasIM_mem hs,Or.inr ⟨hd,C,vs,hH,Or.inr ⟨hasDecl_mem hp.1,hasSel_mem hp.2,g.1.resolve_left (by simp)⟩⟩⟩⟩
                  · cases hq
              · cases hq
            · cases hq
          · cases h
        · cases h
      · cases h
    · cases h
  · cases h
theorem act_size {pc' : Nat} {ls' : List Slot} {st' : List Value} {H' : AHeap} (h : act ws dn k y bytes ret pc ls st H = some (.inr (.inl (pc',ls',st',H')))) : H.length≤H'.length∧tot ws H≤tot ws H'∧ls'.length = ls.length:=by
  obtain ⟨ins,len,hd,⟨g,rfl⟩ | ⟨rfl,g⟩ | ⟨i,sl,a,r,-,-,-,-,-,-,rfl,-,rfl⟩⟩:=act_step h
  · exact ⟨Nat.le_refl _,Nat.le_refl _,xstep_size g⟩
  · have:=hstep_size g; exact ⟨this.1,this.2,rfl⟩
  · exact ⟨Nat.le_refl _,Nat.le_refl _,rfl⟩
end Inv
theorem run_size {ws : Ws} {dn : Dn} {k : Nat} : ∀ {n : Nat} {y : MethodName} {bytes : ByteArray} {ret : Option FieldType} {pc : Nat} {ls : List Slot} {st : List Value} {H : AHeap} {v : Option Value} {H' : AHeap},run ws dn k n y bytes ret pc ls st H = some (v,H')→H.length≤H'.length∧tot ws H≤tot ws H'
  | 0,_,_,_,_,_,_,_,_,_,h => by cases h
  | n + 1,y,bytes,ret,pc,ls,st,H,v,H',h => by
    rw [run] at h
    split at h
    · cases h
    · cases h; exact ⟨Nat.le_refl _,Nat.le_refl _⟩
    · rename_i g
      have h1:=run_size h
      have h2:=act_size g
      exact ⟨Nat.le_trans h2.1 h1.1,Nat.le_trans h2.2.1 h1.2⟩
    · split at h
      · rename_i g
        have h1:=run_size h
        have h2:=run_size g
        exact ⟨Nat.le_trans h2.1 h1.1,Nat.le_trans h2.2 h1.2⟩
      · cases h
section Snd
/-- from here on the machine comes to a return of v with the heap H' -/
def Goes (p : Program) (l : Launch) (e : Env) (R : Room) (s : State) (m : MethodId) (args : Array Value) (below : List Frame) (meth : Method) (c : Code) (T : State) (Z : State) (ws : Ws) (k sa n0 cells slots : Nat) (H : AHeap) (g : JFrame) (ret : Option FieldType) (v : Option Value) (H' : AHeap) : Prop :=
  ∃ T' locs',Stand p l e R s m args below meth c T' locs' (cells + (H'.length - H.length)) (slots + (tot ws H' - tot ws H))∧Sim Z ws k sa n0 H' T'.heap∧Fr n0 locs'∧(ret = none→v = none) ∧
    ∀ fs,(∀ (fj : JFrame) (acts : List Action),fj.method = m→fj.locked = none→fj.entered = []→(doReturn e (T'.setTop fj) acts (v.map (ren (adr k sa n0)))).1 = T'.setFrames fs)→Steps p.tables e below (T.setTop g) (T'.setFrames fs)
variable {p : Program} {l : Launch} {e : Env} {R : Room} {s : State} {m : MethodId} {args : Array Value} {below : List Frame} {meth : Method} {c : Code} {T : State} {locs : List Loc} {cells slots : Nat}
  {Z : State} {a0 : Array Value} {ws : Ws} {dn : Dn} {k sa n0 : Nat}
theorem Goes.of {T1 : State} {H H1 H' : AHeap} {g g1 : JFrame} {ret : Option FieldType} {v : Option Value} (hst : ∀ target,Steps p.tables e below (T1.setTop g1) target→Steps p.tables e below (T.setTop g) target)
    (G : Goes p l e R s m args below meth c T1 Z ws k sa n0 (cells + (H1.length - H.length)) (slots + (tot ws H1 - tot ws H)) H1 g1 ret v H') (m1 : H.length≤H1.length∧tot ws H≤tot ws H1) (m2 : H1.length≤H'.length∧tot ws H1≤tot ws H') :
    Goes p l e R s m args below meth c T Z ws k sa n0 cells slots H g ret v H':=by
  obtain ⟨T',locs',X',S',N',hv,go⟩:=G
  have e1 : cells + (H1.length - H.length) + (H'.length - H1.length) = cells + (H'.length - H.length):=by omega
  have e2 : slots + (tot ws H1 - tot ws H) + (tot ws H' - tot ws H1) = slots + (tot ws H' - tot ws H):=by omega
  rw [e1,e2] at X'
  exact ⟨T',locs',X',S',N',hv,fun fs hf => hst _ (go fs hf)⟩
def Snd (Z : State) (ws : Ws) (dn : Dn) (k sa n0 n : Nat) : Prop :=
  ∀ (y : MethodName) (bytes : ByteArray) (ret : Option FieldType) (pc : Nat) (ls : List Slot) (st : List Value) (H : AHeap) (v : Option Value) (H' : AHeap),run ws dn k n y bytes ret pc ls st H = some (v,H') →
  ∀ (p : Program) (l : Launch) (e : Env) (R : Room) (s : State) (m : MethodId) (args : Array Value) (below : List Frame) (meth : Method) (c : Code) (T : State) (locs : List Loc) (cells slots : Nat),
    Stand p l e R s m args below meth c T locs cells slots→p.tables.exec = Jvm.exec→Z.Warmed39 s.vm→s.vm.findClass y.cls = some m.cls→meth.name = y.name→meth.sig.returnType = ret→c.code = bytes→ls.length = c.maxLocals →
    (∀ f lc,dnOf dn y = some (f,lc)→f≤R.frames∧lc≤R.locals)→Sim Z ws k sa n0 H T.heap→Fr n0 locs→cells + (H'.length - H.length)≤R.cells→slots + (tot ws H' - tot ws H)≤R.slots→T.heap.size = s.heap.size + cells →
    Goes p l e R s m args below meth c T Z ws k sa n0 cells slots H (fr (adr k sa n0) m pc ls st) ret v H'
theorem met_of {n : Nat} (ih : Snd Z ws dn k sa n0 n) (l : Launch) {y : MethodName} {b : ByteArray} {mx f lc : Nat} {r : Option FieldType} (wsx : List Jvm.Cond) (hp : Jvm.plainName y.cls = true) {as : List Value} (he : (ent as).length≤mx) {H H1 : AHeap} {v : Option Value}
    (hrun : run ws dn k n y b r 0 (entry as mx) [] H = some (v,H1)) (hdn : ∀ f' l',dnOf dn y = some (f',l')→f'≤f∧l'≤lc) {h : Heap} (S : Sim Z ws k sa n0 H h) {rc rs : Nat} (hc : H1.length - H.length≤rc) (hs : tot ws H1 - tot ws H≤rs) :
    MetFree l y (head1 (Jvm.Cond.code y b mx r::wsx) ({ frames:=f,cells:=rc,slots:=rs,locals:=lc } : Room)) (fun a U => a = (as.map (ren (adr k sa n0))).toArray∧Z.Warmed39 U.vm∧U.heap = h) (fun _ _ _ _ _ => True)
      (fun _ U o U' => ∃ w L,o = .returned w∧(w = v.map (ren (adr k sa n0))∧Sim Z ws k sa n0 H1 U'.heap∧Fr n0 L)∧FrameEnd U o U' L (H1.length - H.length) (tot ws H1 - tot ws H)):=by
  refine MetFree.of_bodySF (plainFor_of_name hp) hisR ?_
  intro p e s m args below meth c s₁ Bd hml0 hP hK
  obtain ⟨rfl,hZ,hh⟩:=hP
  have hown : s.vm.findClass y.cls = some m.cls:=findClass_of_methodNamed Bd.named
  have hnm:=(name_of_methodNamed Bd.named Bd.method).1
  have X0 : Stand p l e ({ frames:=f,cells:=rc,slots:=rs,locals:=lc } : Room) s m (as.map (ren (adr k sa n0))).toArray below meth c s₁ [] 0 0:=Stand.of_body Bd
  have e0 : s₁.heap = h:=by rw [← hh,Bd.state]; rfl
  obtain ⟨T',locs',X',S',N',hv,go⟩:=ih y b r 0 (entry as mx) [] H v H1 hrun p l e _ s m _ below meth c s₁ [] 0 0 X0 Bd.exec hZ hown hnm Bd.returns Bd.bytes (by rw [entry_len he]; exact hml0.symm) hdn (by rw [e0]; exact S) (Fr.nil n0) (by rw [Nat.zero_add]; exact hc) (by rw [Nat.zero_add]; exact hs) (by rw [e0,← hh,Nat.add_zero])
  obtain ⟨fs,hr,hrun',hended,hW,hsame⟩:=X'.leave (v:=v.map (ren (adr k sa n0))) (fun hn => by rw [Bd.returns] at hn; rw [hv hn]; rfl)
  refine ⟨_,_,castTop (entry_eq _ m as mx) (go fs hr),hrun',hended,_,locs',rfl,⟨rfl,S',N'⟩,⟨_,rfl⟩,hW,hsame.mono (Nat.le_of_eq (Nat.zero_add _)) (Nat.le_of_eq (Nat.zero_add _))⟩
set_option maxHeartbeats 2000000 in
theorem snd (hw : ∀ d ∈ ws,d.before a0 Z = true) : ∀ n,Snd Z ws dn k sa n0 n
  | 0 => fun y bytes ret pc ls st H v H' h => by cases h
  | n + 1 => fun y bytes ret pc ls st H v H' h p l e R s m args below meth c T locs cells slots X hx hZ hown hnm hret hby hls hF S N hc hl hz0 => by
    have ih:=snd hw n
    rw [run] at h
    split at h
    · cases h
    · rename_i v' ha
      cases h
      have stay : ∀ {v : Option Value},(ret = none→v = none)→(∀ fs,(∀ (fj : JFrame) (acts : List Action),fj.method = m→fj.locked = none→fj.entered = []→(doReturn e (T.setTop fj) acts (v.map (ren (adr k sa n0)))).1 = T.setFrames fs)→Steps p.tables e below (T.setTop (fr (adr k sa n0) m pc ls st)) (T.setFrames fs)) →
          Goes p l e R s m args below meth c T Z ws k sa n0 cells slots H (fr (adr k sa n0) m pc ls st) ret v H:=fun hv hg => ⟨T,locs,by rw [Nat.sub_self,Nat.sub_self]; exact X,S,N,hv,hg⟩
      rcases act_ret ha with ⟨z,r,t,hd,rfl,rfl,ht,rfl⟩ | ⟨z,hd,rfl,rfl,rfl⟩ | ⟨hd,rfl,rfl,rfl⟩
      · refine stay (fun h => by cases h) fun fs hf => ?_
        rcases ht with rfl | ht
        · exact retOut X hx hret (w:=.int z) (rest:=r.map (ren (adr k sa n0))) rfl (Or.inl ⟨rfl,Or.inl rfl,z,rfl⟩) (hb hby hd) hf
        · exact retN X hx hret ht (hb hby hd) hf
      · exact stay (fun h => by cases h) fun fs hf => retOut X hx hret (w:=.long z) (rest:=[]) rfl (Or.inr (Or.inl ⟨rfl,rfl,z,rfl⟩)) (hb hby hd) hf
      · exact stay (fun _ => rfl) fun fs hf => X.returnOut hx hret (hb hby hd) hf
    · rename_i pc' ls' st' H1 ha
      have m1:=act_size ha
      have m2:=run_size h
      obtain ⟨ins,len,hd,⟨g,rfl⟩ | ⟨rfl,g⟩ | ⟨i,sl,a,r,rfl,rfl,ho,rfl,hW,rfl,rfl,rfl,rfl⟩⟩:=act_step ha
      · obtain ⟨T',locs',X',S',N',hv,go⟩:=ih y bytes ret pc' ls' st' H1 v H' h p l e R s m args below meth c T locs cells slots X hx hZ hown hnm hret hby (m1.2.2.trans hls) hF S N hc hl hz0
        exact ⟨T',locs',X',S',N',hv,fun fs hf => xstep_sound X.here hx (adr k sa n0) (hb hby hd) g (go fs hf)⟩
      · obtain ⟨T1,locs1,X1,S1,N1,st1⟩:=hstep_sound (ls:=ls') hw X hx hZ hown hnm (hb hby hd) g S N (by dsimp only; omega) (by dsimp only; omega) hz0
        dsimp only at X1 S1 st1
        have z1:=S.1
        have z2:=S1.1
        have z3:=S.2.1
        have G:=ih y bytes ret pc' ls' st' H1 v H' h p l e R s m args below meth c T1 locs1 _ _ X1 hx hZ hown hnm hret hby hls hF S1 N1 (by omega) (by omega) (by omega)
        exact Goes.of st1 G ⟨m1.1,m1.2.1⟩ m2
      · unfold oR at ho
        split at ho
        · rename_i y1 b1 mx1 r1 f1 l1 q1 q2 q3
          split at ho
          · rename_i g
            cases ho
            obtain ⟨rfl,g2,g3,rfl,rfl,g4,g5⟩:=g
            obtain ⟨u1,u2⟩:=hF _ _ q3
            have eb : b1 = ⟨#[0xb1]⟩:=by cases b1; cases g3; rfl
            subst eb
            obtain ⟨T1,X1,e1,st1⟩:=initO X hx hZ hown (hw _ (rMth_mem q1)) (hw _ (hasIM_mem g2)) (hw _ (rCode_mem q2)) rfl (g:=fr (adr k sa n0) m pc ls' (.ref a::st')) rfl (by simp [hls]) rfl (hb hby hd) (by omega) (W:=l1 - 12) (by show 2 * 0 + _≤_; rw [wsum_ren]; omega) (by omega)
            have G:=ih y bytes ret (pc + 3) ls' st' H1 v H' h p l e R s m args below meth c T1 locs cells slots X1 hx hZ hown hnm hret hby hls hF (by rw [e1]; exact S) N hc hl (by rw [e1]; exact hz0)
            obtain ⟨T',locs',X',S',N',hv,go⟩:=G
            exact ⟨T',locs',X',S',N',hv,fun fs hf => st1 _ (go fs hf)⟩
          · cases ho
        · cases ho
    · rename_i y' b r en rest ha
      split at h
      · rename_i v1 H1 h1
        have m1:=run_size h1
        have m2:=run_size h
        obtain ⟨i,mx,na,sl,as,hq,rfl,hen,hW,hk⟩:=act_call ha
        obtain ⟨w1,w2,w3,w4,w5,-,f',l',f,lc,sig,d1,d2,d3,d4,d5,d6⟩:=cR_some hq
        obtain ⟨u1,u2⟩:=hF _ _ d2
        have hM:=met_of ih l [] w4 hen h1 (f:=f') (lc:=l') (fun f2 l2 q => by rw [d1] at q; cases q; exact ⟨Nat.le_refl _,Nat.le_refl _⟩) S (Nat.le_refl _) (Nat.le_refl _)
        have hB:=backOf (R:=R) (p:=p) (e:=e) (below:=below) (s:=s) (args:=args) (len:=3) (W:=sl) (rm:=({ frames:=f',cells:=H1.length - H.length,slots:=tot ws H1 - tot ws H,locals:=l' } : Room)) (Q:=fun w h L => w = v1.map (ren (adr k sa n0))∧Sim Z ws k sa n0 H1 h∧Fr n0 L) hM hZ (hw _ w2) (hw _ w3) (by show f' + 1≤_; omega) (by show sl + (mx + 11) + l'≤_; omega)
        have hsz : (fr (adr k sa n0) m pc ls st).locals.size = c.maxLocals:=by simp [hls]
        have hWW : ∀ st' : List Value,wsum st'≤sl→2 * (fr (adr k sa n0) m pc ls st).monitorRoom + ((st'.map (ren (adr k sa n0))).map fun v => v.category).sum≤sl:=fun st' q => by show 2 * 0 + _≤_; rw [wsum_ren]; omega
        have hback : ∀ (v' : Option Value) (vm₁ : Vm) (B : Pt),Stand p l e R s m args below meth c B.U B.locs B.cells B.slots →
            (∃ L,(v' = v1.map (ren (adr k sa n0))∧Sim Z ws k sa n0 H1 B.U.heap∧Fr n0 L)∧B.locs = locs ++ L∧B.cells = cells + (H1.length - H.length)∧B.slots = slots + (tot ws H1 - tot ws H)) →
            (∀ target,Steps p.tables e below (B.U.setTop { fr (adr k sa n0) m pc ls st with pc:=pc + 3,stack:=v'.toList ++ rest.map (ren (adr k sa n0)) }) target→Steps p.tables e below (T.setTop (fr (adr k sa n0) m pc ls st)) target) →
            Goes p l e R s m args below meth c T Z ws k sa n0 cells slots H (fr (adr k sa n0) m pc ls st) ret v H':=by
          rintro v' vm₁ ⟨T1,L1,k1,n1⟩ X1 ⟨Lc,⟨rfl,S1,N1⟩,l1,y1,z1⟩ st1
          dsimp only [Pt.U,Pt.locs,Pt.cells,Pt.slots] at X1 l1 y1 z1 st1 S1
          subst l1 y1 z1
          have z1:=S.1
          have z2:=S1.1
          have z3:=S.2.1
          have G:=ih y bytes ret (pc + 3) ls (v1.toList ++ rest) H1 v H' h p l e R s m args below meth c T1 _ _ _ X1 hx hZ hown hnm hret hby hls hF S1 (Fr.app N N1) (by omega) (by omega) (by omega)
          refine Goes.of (fun target ht => st1 target ?_) G m1 m2
          have e1 : (v1.toList ++ rest).map (ren (adr k sa n0)) = (v1.map (ren (adr k sa n0))).toList ++ rest.map (ren (adr k sa n0)):=by cases v1 <;> simp
          rw [← e1]; exact ht
        rcases hk with ⟨hd,ws1,hna,rfl⟩ | ⟨a,as',rfl,hna,rfl,wi,⟨hd,hn,rfl⟩ | ⟨hd,C,vs,hH,hpd⟩⟩
        · obtain ⟨v',vm₁,B,-,X1,P1,st1⟩:=Jvm.LawKit.callS X hx (y:=y') hown (mvT hZ (hw _ w1)) (mvT hZ (hw _ ws1)) (mvT hZ (hw _ w3)) (mvT hZ (hw _ w2)) w5 hB (g:=fr (adr k sa n0) m pc ls (as.reverse ++ rest)) rfl hsz (argsL:=as.map (ren (adr k sa n0))) (rest:=rest.map (ren (adr k sa n0)))
            (fun sg hsg => by rw [d3] at hsg; cases hsg; simp [hna,d4]) (by simp) (hWW rest hW) (hb hby hd) (fun _ _ => ⟨rfl,rfl,by show cells + (H1.length - H.length)≤_; omega,by show slots + (tot ws H1 - tot ws H)≤_; omega⟩)
          exact hback v' vm₁ B X1 P1 st1
        · obtain ⟨v',vm₁,B,-,X1,P1,st1⟩:=X.specialBack hx (y:=y') hn hown (mvT hZ (hw _ w1)) (mvT hZ (hw _ wi)) (mvT hZ (hw _ w2)) w5 hB (g:=fr (adr k sa n0) m pc ls (as'.reverse ++ .ref a::rest)) rfl hsz (Steps.refl _) (a:=adr k sa n0 a) (argsL:=as'.map (ren (adr k sa n0))) (rest:=rest.map (ren (adr k sa n0)))
            (fun sg hsg => by rw [d3] at hsg; cases hsg; simp [hna,d4]) (by simp [ren]) (hWW rest hW) (hb hby hd) (fun _ _ => ⟨rfl,rfl,by show cells + (H1.length - H.length)≤_; omega,by show slots + (tot ws H1 - tot ws H)≤_; omega⟩)
          exact hback v' vm₁ B X1 P1 fun target ht => st1.trans ht
        · have E:=(S.2.2.2.2 a _ hH).1
          rcases hpd with ⟨wp,ki,wki⟩ | ⟨wd,wsel,rfl⟩
          · obtain ⟨cq,hq1,hq2⟩:=E.cell
            have hpa : s.PrivateAt y':=Cond.privateMethod_at (mvP hZ (hw _ wp) (args:=#[]))
            have hsel : (Jvm.Cond.selects y'.cls y' y').before args s = true:=by
              have wz : (Jvm.Cond.instantiable y'.cls ki).before args s = true:=mvT hZ (hw _ wki)
              obtain ⟨c2,k2,i1,i2,-,i4,-⟩:=Cond.instantiable_spec wz
              exact selects_self_of_private i1 i2 (Bool.or_eq_false_iff.mp i4).1 hpa (mvT hZ (hw _ wi)) w5
            obtain ⟨v',vm₁,B,-,X1,P1,st1⟩:=X.privateBack hx (y:=y') hown (mvT hZ (hw _ w1)) (mvT hZ (hw _ wi)) hsel hpa (mvT hZ (hw _ w2)) w5 hB (g:=fr (adr k sa n0) m pc ls (as'.reverse ++ .ref a::rest)) rfl hsz (Steps.refl _) (a:=adr k sa n0 a) hq1 hq2 (argsL:=as'.map (ren (adr k sa n0))) (rest:=rest.map (ren (adr k sa n0)))
              (fun sg hsg => by rw [d3] at hsg; cases hsg; simp [hna,d4]) (by simp [ren]) (hWW rest hW) (hb hby hd) (fun _ _ => ⟨rfl,rfl,by show cells + (H1.length - H.length)≤_; omega,by show slots + (tot ws H1 - tot ws H)≤_; omega⟩)
            exact hback v' vm₁ B X1 P1 fun target ht => st1.trans ht
          · obtain ⟨cq,kq,qa,qb,qc⟩:=isOf hZ rfl E
            obtain ⟨v',vm₁,B,-,X1,P1,st1⟩:=X.virtualBack hx (y:=y') (z:=y') hown (mvT hZ (hw _ w1)) (mvT hZ (hw _ wd)) (notFace_of_selects (args:=#[]) (mvT hZ (hw _ wsel))) (mvT hZ (hw _ wsel)) (mvT hZ (hw _ wi)) w5 hB qa qc (g:=fr (adr k sa n0) m pc ls (as'.reverse ++ .ref a::rest)) rfl hsz (Steps.refl _) (argsL:=as'.map (ren (adr k sa n0))) (rest:=rest.map (ren (adr k sa n0)))
              (fun sg hsg => by rw [d3] at hsg; cases hsg; simp [hna,d4]) (by simp [ren]) (hWW rest hW) (hb hby hd) (fun _ _ => ⟨rfl,rfl,by show cells + (H1.length - H.length)≤_; omega,by show slots + (tot ws H1 - tot ws H)≤_; omega⟩)
            exact hback v' vm₁ B X1 P1 fun target ht => st1.trans ht
      · cases h
end Snd
end Jvm.Own
namespace Jvm.Own
open Sem ClassFile Op Lib Jvm.Stand Jvm.Free Jvm.LawKit Jvm.RoadKit
/-! OWN 6: from here on no machine is in sight -/
theorem run_succ {ws : Ws} {dn : Dn} {k : Nat} : ∀ {n : Nat} {y : MethodName} {bytes : ByteArray} {ret : Option FieldType} {pc : Nat} {ls : List Slot} {st : List Value} {H : AHeap} {r : Option Value × AHeap},run ws dn k n y bytes ret pc ls st H = some r→run ws dn k (n + 1) y bytes ret pc ls st H = some r
  | 0,_,_,_,_,_,_,_,_,h => by cases h
  | n + 1,y,bytes,ret,pc,ls,st,H,r,h => by
    rw [run] at h
    rw [run]
    split at h
    · cases h
    · exact h
    · exact run_succ h
    · split at h
      · rename_i v H1 g
        rw [run_succ g]
        exact run_succ h
      · cases h
theorem run_mono {ws : Ws} {dn : Dn} {k n n' : Nat} {y : MethodName} {bytes : ByteArray} {ret : Option FieldType} {pc : Nat} {ls : List Slot} {st : List Value} {H : AHeap} {r : Option Value × AHeap} (hn : n≤n') (h : run ws dn k n y bytes ret pc ls st H = some r) : run ws dn k n' y bytes ret pc ls st H = some r:=by
  induction hn with
  | refl => exact h
  | step _ ih => exact run_succ ih
/-- from here on a run comes to a return at which Q holds -/
def W (ws : Ws) (dn : Dn) (k : Nat) (y : MethodName) (bytes : ByteArray) (ret : Option FieldType) (pc : Nat) (ls : List Slot) (st : List Value) (H : AHeap) (Q : Option Value→AHeap→Prop) : Prop :=
  ∃ n v H',run ws dn k n y bytes ret pc ls st H = some (v,H')∧Q v H'
section
variable {ws : Ws} {dn : Dn} {k : Nat} {y : MethodName} {bytes : ByteArray} {ret : Option FieldType} {pc : Nat} {ls : List Slot} {st : List Value} {H : AHeap} {Q : Option Value→AHeap→Prop}
theorem W_step {pc' : Nat} {ls' : List Slot} {st' : List Value} {H' : AHeap} (h : act ws dn k y bytes ret pc ls st H = some (.inr (.inl (pc',ls',st',H')))) : W ws dn k y bytes ret pc ls st H Q = W ws dn k y bytes ret pc' ls' st' H' Q:=by
  refine propext ⟨fun ⟨n,v,H1,h1,h2⟩ => ?_,fun ⟨n,v,H1,h1,h2⟩ => ⟨n + 1,v,H1,by rw [run,h]; exact h1,h2⟩⟩
  cases n with
  | zero => cases h1
  | succ n => rw [run,h] at h1; exact ⟨n,v,H1,h1,h2⟩
theorem W_ret {v : Option Value} (h : act ws dn k y bytes ret pc ls st H = some (.inl v)) : W ws dn k y bytes ret pc ls st H Q = Q v H:=by
  refine propext ⟨fun ⟨n,v,H1,h1,h2⟩ => ?_,fun h2 => ⟨1,v,H,by rw [run,h],h2⟩⟩
  cases n with
  | zero => cases h1
  | succ n => rw [run,h] at h1; cases h1; exact h2
theorem W_call {y' : MethodName} {b : ByteArray} {r : Option FieldType} {en : List Slot} {rest : List Value} (h : act ws dn k y bytes ret pc ls st H = some (.inr (.inr (y',b,r,en,rest)))) :
    W ws dn k y bytes ret pc ls st H Q = W ws dn k y' b r 0 en [] H (fun v H1 => W ws dn k y bytes ret (pc + 3) ls (v.toList ++ rest) H1 Q):=by
  refine propext ⟨fun ⟨n,v,H1,h1,h2⟩ => ?_,fun ⟨n,v,H1,h1,n',v',H',h2,h3⟩ => ⟨max n n' + 1,v',H',?_,h3⟩⟩
  · cases n with
    | zero => cases h1
    | succ n =>
      rw [run,h] at h1
      dsimp only at h1
      split at h1
      · rename_i v' H' g; exact ⟨n,v',H',g,n,v,H1,h1,h2⟩
      · cases h1
  · rw [run,h]
    dsimp only
    rw [run_mono (Nat.le_max_left _ _) h1]
    exact run_mono (Nat.le_max_right _ _) h2
theorem W.mono {Q' : Option Value→AHeap→Prop} (h : W ws dn k y bytes ret pc ls st H Q) (hq : ∀ v H',Q v H'→Q' v H') : W ws dn k y bytes ret pc ls st H Q':=by
  obtain ⟨n,v,H',h1,h2⟩:=h; exact ⟨n,v,H',h1,hq _ _ h2⟩
theorem act_x {ins : Instr} {len pc' : Nat} {ls' : List Slot} {st' : List Value} (hd : decode bytes pc = .ok (ins,len)) (hx : xstep ins len pc ls st = some (pc',ls',st')) : act ws dn k y bytes ret pc ls st H = some (.inr (.inl (pc',ls',st',H))):=by
  unfold act; rw [hd]; dsimp only; rw [hx]
theorem act_h {ins : Instr} {len pc' : Nat} {st' : List Value} {H' : AHeap} (hd : decode bytes pc = .ok (ins,len)) (hx : xstep ins len pc ls st = none) (hh : hstep ws k y ins len pc st H = some (pc',st',H')) : act ws dn k y bytes ret pc ls st H = some (.inr (.inl (pc',ls,st',H'))):=by
  unfold act; rw [hd]; dsimp only; rw [hx]; dsimp only; rw [hh]
theorem act_c {ins : Instr} {len : Nat} (hd : decode bytes pc = .ok (ins,len)) (hx : xstep ins len pc ls st = none) (hh : hstep ws k y ins len pc st H = none) : act ws dn k y bytes ret pc ls st H = cstep ws dn y ret ins len pc ls st H:=by
  unfold act; rw [hd]; dsimp only; rw [hx]; dsimp only; rw [hh]
/-- a plain step -/
theorem w_x {ins : Instr} {len pc' : Nat} {ls' : List Slot} {st' : List Value} (hd : decode bytes pc = .ok (ins,len)) (hx : xstep ins len pc ls st = some (pc',ls',st')) : W ws dn k y bytes ret pc ls st H Q = W ws dn k y bytes ret pc' ls' st' H Q:=W_step (act_x hd hx)
/-- a conditional branch -/
theorem w_if {cd : ClassFile.Cond} {o : Int} {x : Int32} {t : Nat} {P : Prop} [Decidable P] (hd : decode bytes pc = .ok (.ifCond cd o,3)) (hp : ifCond.holds cd x = decide P) (hj : jmp pc o = some t) :
    W ws dn k y bytes ret pc ls (.int x::st) H Q = if P then W ws dn k y bytes ret t ls st H Q else W ws dn k y bytes ret (pc + 3) ls st H Q:=by
  split
  · exact w_x hd (by simp only [xstep,chk,br,hp,hj,if_true]; simp [*])
  · exact w_x hd (by simp only [xstep,chk,br,hp,hj,if_true]; simp [*])
theorem w_icmp {cd : ClassFile.Cond} {o : Int} {x1 x2 : Int32} {t : Nat} {P : Prop} [Decidable P] (hd : decode bytes pc = .ok (.if_icmp cd o,3)) (hp : if_icmp.holds cd x1 x2 = decide P) (hj : jmp pc o = some t) :
    W ws dn k y bytes ret pc ls (.int x2::.int x1::st) H Q = if P then W ws dn k y bytes ret t ls st H Q else W ws dn k y bytes ret (pc + 3) ls st H Q:=by
  split
  · exact w_x hd (by simp only [xstep,chk,br,hp,hj,if_true]; simp [*])
  · exact w_x hd (by simp only [xstep,chk,br,hp,hj,if_true]; simp [*])
theorem w_get {i j : Nat} {a : Nat} {C : String} {vs : List Value} {v : Value} (hd : decode bytes pc = .ok (.getfield i,3)) (hr : gfR ws y.cls i = some (C,j)) (ho : H[a]? = some (.object C,vs)) (hv : vs[j]? = some v) :
    W ws dn k y bytes ret pc ls (.ref a::st) H Q = W ws dn k y bytes ret (pc + 3) ls (v::st) H Q :=
  W_step (act_h hd rfl (by simp only [hstep,chk,hGet,hr,ho,hv,if_true,Option.map_some]))
theorem w_put {i j : Nat} {a : Nat} {C : String} {ty : FieldType} {vs : List Value} {v v' : Value} {H' : AHeap} (hd : decode bytes pc = .ok (.putfield i,3)) (hr : pfR ws y.cls y.name i = some (C,j,ty)) (ho : H[a]? = some (.object C,vs)) (hk : k≤a) (hj : j < vs.length) (hv : putv ty v = some v') (hH : H.set a (.object C,vs.set j v') = H') :
    W ws dn k y bytes ret pc ls (v::.ref a::st) H Q = W ws dn k y bytes ret (pc + 3) ls st H' Q :=
  W_step (act_h hd rfl (by simp only [hstep,chk,hPut,hr,ho,hv,if_true,true_and,hk,hj,Option.map_some,hH,and_self]))
theorem w_new {i : Nat} {C : String} (hd : decode bytes pc = .ok (.new i,3)) (hr : hNew ws y.cls i pc H st = some (pc + 3,.ref H.length::st,H ++ [(.object C,(olay ws C).map dflt)])) :
    W ws dn k y bytes ret pc ls st H Q = W ws dn k y bytes ret (pc + 3) ls (.ref H.length::st) (H ++ [(.object C,(olay ws C).map dflt)]) Q :=
  W_step (act_h hd rfl (by simp only [hstep,chk,if_true]; exact hr))
theorem w_newA {aty : ArrayType} {n : Int32} {ty : FieldType} (hd : decode bytes pc = .ok (.newarray aty,2)) (ht : newarray.typeOf aty = ty) (hr : hasArr ws ty = true) (hn : ¬ n < 0) (hb : n.toNatClampNeg * 8≤536870912) :
    W ws dn k y bytes ret pc ls (.int n::st) H Q = W ws dn k y bytes ret (pc + 2) ls (.ref H.length::st) (H ++ [(.array ty,List.replicate n.toNatClampNeg (defaultValue ty))]) Q:=by
  subst ht
  exact W_step (act_h hd rfl (by simp only [hstep,chk,hNewA,hr,hn,hb,if_true,not_false_eq_true,and_self]))
/-- may the instruction read an array of that kind? -/
def ldOk : Instr→FieldType→Bool
  | .iaload,.int | .caload,.char | .laload,.long | .baload,.byte | .baload,.boolean => true
  | _,_ => false
def stOk : Instr→FieldType→Bool
  | .iastore,.int | .castore,.char | .lastore,.long | .bastore,.byte | .bastore,.boolean => true
  | _,_ => false
theorem w_ald {ins : Instr} {a : Nat} {j : Int32} {ty : FieldType} {vs : List Value} {v : Value} (hd : decode bytes pc = .ok (ins,1)) (hi : ldOk ins ty = true) (ho : H[a]? = some (.array ty,vs)) (hj : ¬ j < 0) (hv : vs[j.toNatClampNeg]? = some v) :
    W ws dn k y bytes ret pc ls (.int j::.ref a::st) H Q = W ws dn k y bytes ret (pc + 1) ls (v::st) H Q:=by
  unfold ldOk at hi
  split at hi
  all_goals first
    | exact W_step (act_h hd rfl (by simp only [hstep,chk,hLd,okT,okB,ho,hv,hj,if_true,Option.map_some,decide_true,not_false_eq_true,and_self,Bool.or_true,Bool.true_or]))
    | cases hi
theorem w_ast {ins : Instr} {a : Nat} {j : Int32} {ty : FieldType} {vs : List Value} {v v' : Value} {H' : AHeap} (hd : decode bytes pc = .ok (ins,1)) (hi : stOk ins ty = true) (ho : H[a]? = some (.array ty,vs)) (hk : k≤a) (hj : ¬ j < 0) (hl : j.toNatClampNeg < vs.length) (hv : putv ty v = some v') (hH : H.set a (.array ty,vs.set j.toNatClampNeg v') = H') :
    W ws dn k y bytes ret pc ls (v::.int j::.ref a::st) H Q = W ws dn k y bytes ret (pc + 1) ls st H' Q:=by
  unfold stOk at hi
  split at hi
  all_goals first
    | exact W_step (act_h hd rfl (by simp only [hstep,chk,hSt,okT,okB,ho,hv,hj,hk,hl,hH,if_true,Option.map_some,decide_true,not_false_eq_true,and_self,Bool.or_true,Bool.true_or]))
    | cases hi
theorem w_len {a : Nat} {ty : FieldType} {vs : List Value} (hd : decode bytes pc = .ok (.arraylength,1)) (ho : H[a]? = some (.array ty,vs)) :
    W ws dn k y bytes ret pc ls (.ref a::st) H Q = W ws dn k y bytes ret (pc + 1) ls (.int vs.length.toInt32::st) H Q :=
  W_step (act_h hd rfl (by simp only [hstep,chk,hLen,ho,if_true]))
theorem w_ldc {i : Nat} {v : Int32} (hd : decode bytes pc = .ok (.ldc i,2)) (hr : rCon ws y.cls i = some v) : W ws dn k y bytes ret pc ls st H Q = W ws dn k y bytes ret (pc + 2) ls (.int v::st) H Q :=
  W_step (act_h hd rfl (by simp only [hstep,chk,hr,if_true,Option.map_some]))
theorem w_ldcw {i : Nat} {v : Int32} (hd : decode bytes pc = .ok (.ldc_w i,3)) (hr : rCon ws y.cls i = some v) : W ws dn k y bytes ret pc ls st H Q = W ws dn k y bytes ret (pc + 3) ls (.int v::st) H Q :=
  W_step (act_h hd rfl (by simp only [hstep,chk,hr,if_true,Option.map_some]))
theorem w_ldc2 {i : Nat} {v : Int64} (hd : decode bytes pc = .ok (.ldc2_w i,3)) (hr : rConL ws y.cls i = some v) : W ws dn k y bytes ret pc ls st H Q = W ws dn k y bytes ret (pc + 3) ls (.long v::st) H Q :=
  W_step (act_h hd rfl (by simp only [hstep,chk,hr,if_true,Option.map_some]))
theorem w_iret {z : Int32} (hd : decode bytes pc = .ok (.ireturn,1)) (hr : ret = some .int) : W ws dn k y bytes ret pc ls (.int z::st) H Q = Q (some (.int z)) H:=by
  subst hr; exact W_ret (by rw [act_c hd rfl rfl]; rfl)
theorem w_iretN {z : Int32} {t : FieldType} (hd : decode bytes pc = .ok (.ireturn,1)) (hr : ret = some t) (ht : t = .int ∨ t = .boolean ∨ t = .byte ∨ t = .char ∨ t = .short) : W ws dn k y bytes ret pc ls (.int z::st) H Q = Q (some (.int (nar t z))) H:=by
  subst hr; exact W_ret (by rw [act_c hd rfl rfl]; simp only [cstep,chk,if_true,ht])
theorem w_lret {z : Int64} (hd : decode bytes pc = .ok (.lreturn,1)) (hr : ret = some .long) : W ws dn k y bytes ret pc ls [.long z] H Q = Q (some (.long z)) H:=by
  subst hr; exact W_ret (by rw [act_c hd rfl rfl]; rfl)
theorem w_vret (hd : decode bytes pc = .ok (.return_,1)) (hr : ret = none) : W ws dn k y bytes ret pc ls [] H Q = Q none H:=by
  subst hr; exact W_ret (by rw [act_c hd rfl rfl]; rfl)
theorem w_obj {i sl : Nat} {a : Nat} (hd : decode bytes pc = .ok (.invokespecial i,3)) (hr : oR ws dn y i = some sl) (hw : wsum st≤sl) : W ws dn k y bytes ret pc ls (.ref a::st) H Q = W ws dn k y bytes ret (pc + 3) ls st H Q :=
  W_step (by rw [act_c hd rfl rfl]; simp only [cstep,chk,if_true,hr,hw])
theorem w_stat {i mx na sl : Nat} {y' : MethodName} {b : ByteArray} {r : Option FieldType} {as rest : List Value} {en : List Slot} (hd : decode bytes pc = .ok (.invokestatic i,3)) (hr : sR ws dn y i = some (y',b,mx,r,na,sl)) (hn : as.length = na) (hw : wsum rest≤sl) (he : (ent as.reverse).length≤mx) (hen : entry as.reverse mx = en) :
    W ws dn k y bytes ret pc ls (as ++ rest) H Q = W ws dn k y' b r 0 en [] H (fun v H1 => W ws dn k y bytes ret (pc + 3) ls (v.toList ++ rest) H1 Q):=by
  subst hn hen
  have e1 : (as ++ rest).take as.length = as:=by simp
  have e2 : (as ++ rest).drop as.length = rest:=by simp
  exact W_call (by rw [act_c hd rfl rfl]; simp only [cstep,chk,if_true,hr,e1,e2,hw,he,List.length_append,Nat.le_add_right,and_self])
theorem w_spec {i mx na sl a : Nat} {y' : MethodName} {b : ByteArray} {r : Option FieldType} {as rest : List Value} {en : List Slot} (hd : decode bytes pc = .ok (.invokespecial i,3)) (h0 : oR ws dn y i = none) (hr : nR ws dn y i = some (y',b,mx,r,na,sl)) (hn : as.length = na) (hw : wsum rest≤sl) (he : (ent (.ref a::as.reverse)).length≤mx) (hen : entry (.ref a::as.reverse) mx = en) :
    W ws dn k y bytes ret pc ls (as ++ .ref a::rest) H Q = W ws dn k y' b r 0 en [] H (fun v H1 => W ws dn k y bytes ret (pc + 3) ls (v.toList ++ rest) H1 Q):=by
  subst hn hen
  have e1 : (as ++ .ref a::rest).take as.length = as:=by simp
  have e2 : (as ++ .ref a::rest).drop as.length = .ref a::rest:=by simp
  exact W_call (by rw [act_c hd rfl rfl]; simp only [cstep,chk,if_true,h0,hr,e1,e2,hw,he,List.length_append,Nat.le_add_right,and_self])
theorem w_virt {i mx na sl a : Nat} {pv : Bool} {y' : MethodName} {b : ByteArray} {r : Option FieldType} {as rest : List Value} {en : List Slot} {C : String} {vs : List Value} (hd : decode bytes pc = .ok (.invokevirtual i,3)) (hr : vR ws dn y i = some (pv,y',b,mx,r,na,sl)) (ho : H[a]? = some (.object C,vs)) (hC : C = y'.cls) (hn : as.length = na) (hw : wsum rest≤sl) (he : (ent (.ref a::as.reverse)).length≤mx) (hen : entry (.ref a::as.reverse) mx = en) :
    W ws dn k y bytes ret pc ls (as ++ .ref a::rest) H Q = W ws dn k y' b r 0 en [] H (fun v H1 => W ws dn k y bytes ret (pc + 3) ls (v.toList ++ rest) H1 Q):=by
  subst hn hen hC
  have e1 : (as ++ .ref a::rest).take as.length = as:=by simp
  have e2 : (as ++ .ref a::rest).drop as.length = .ref a::rest:=by simp
  exact W_call (by rw [act_c hd rfl rfl]; simp only [cstep,chk,if_true,hr,e1,e2,ho,hw,he,List.length_append,Nat.le_add_right,and_self,or_true])
end
theorem law_of {Z : State} {a0 : Array Value} {ws : Ws} {dn : Dn} {k sa n0 : Nat} (hw : ∀ d ∈ ws,d.before a0 Z = true) (l : Launch) {y : MethodName} {b : ByteArray} {mx f lc rc rs : Nat} {r : Option FieldType} (wsx : List Jvm.Cond) (hp : Jvm.plainName y.cls = true) {as : List Value} (he : (ent as).length≤mx) {H : AHeap}
    (hW : W ws dn k y b r 0 (entry as mx) [] H (fun v H1 => v = some (.int 1)∧H1.length - H.length≤rc∧tot ws H1 - tot ws H≤rs)) (hdn : ∀ f' l',dnOf dn y = some (f',l')→f'≤f∧l'≤lc) {h : Heap} (S : Sim Z ws k sa n0 H h) :
    MetFree l y (head1 (Jvm.Cond.code y b mx r::wsx) ({ frames:=f,cells:=rc,slots:=rs,locals:=lc } : Room)) (fun a U => a = (as.map (ren (adr k sa n0))).toArray∧Z.Warmed39 U.vm∧U.heap = h) (fun _ _ _ _ _ => True)
      (fun _ U o U' => ∃ w L,o = .returned w∧(w = some (.int 1)∧Fr n0 L)∧FrameEnd U o U' L rc rs):=by
  obtain ⟨n,v,H1,h1,rfl,h3,h4⟩:=hW
  have M:=met_of (snd hw n) l wsx hp he h1 hdn S h3 h4
  intro p e ha hc hk s m args below hf happ hP hK
  obtain ⟨n',o,g1,g2,g3,w,L,rfl,⟨rfl,-,N⟩,F⟩:=M p e ha hc hk s m args below hf happ hP hK
  exact ⟨n',_,g1,g2,g3,_,L,rfl,⟨rfl,N⟩,F.1,F.2.1,F.2.2.mono h3 h4⟩
/-- the start of a law whose arguments hold no reference -/
theorem Sim.empty (Z : State) (ws : Ws) (h : Heap) : Sim Z ws 0 0 h.size [] h :=
  ⟨by simp,Nat.le_refl _,Nat.zero_le _,(fun q => absurd q (by decide)),(fun i o q => by simp at q)⟩
/-- the start of a law over one array of ints -/
theorem Sim.script {Z : State} (ws : Ws) {h : Heap} {a : Addr} {c : Cell} {vs : List Int32} (A : Arr Z h a c .int) (e : c.slots = (vs.map Value.int).toArray) : Sim Z ws 1 a h.size [(.array .int,vs.map Value.int)] h:=by
  refine ⟨by simp,Nat.le_refl _,Nat.le_refl _,fun _ => A.lt,fun i o q => ?_⟩
  cases i with
  | zero =>
    cases q
    refine ⟨c,A,e.trans ?_⟩
    rw [List.map_map]; rfl
  | succ i => cases q
end Jvm.Own
namespace Jvm.Own
open Sem ClassFile Op Lib Jvm.Stand Jvm.Free Jvm.LawKit Jvm.RoadKit
/-! OWN 7: states of an object as plain functions -/
def ou {α : Type} (s : Nat→α) (i : Nat) (v : α) : Nat→α:=fun j => if j = i then v else s j
theorem ou_a {α : Type} (s : Nat→α) (i : Nat) (v : α) (j : Nat) : ou s i v j = if j = i then v else s j:=rfl
def pad (b : Nat) (pre : AHeap) : AHeap:=(pre ++ List.replicate b (FieldType.int,[])).take b
theorem pad_len (b : Nat) (pre : AHeap) : (pad b pre).length = b:=by simp [pad]
theorem pad_eq {b : Nat} {pre : AHeap} (h : pre.length = b) : pad b pre = pre:=by subst h; simp [pad]
theorem pad_0 (pre : AHeap) : pad 0 pre = []:=by simp [pad]
theorem tot_cons (ws : Ws) (o : FieldType × List Value) (r : AHeap) : tot ws (o::r) = cost ws o + tot ws r:=by simp [tot]
theorem tot_append (ws : Ws) (a r : AHeap) : tot ws (a ++ r) = tot ws a + tot ws r:=by simp [tot]
theorem tot_nil (ws : Ws) : tot ws [] = 0:=rfl
theorem pad_get (b : Nat) (pre r : AHeap) (i : Nat) : (pad b pre ++ r)[b + i]? = r[i]?:=by
  rw [List.getElem?_append_right (by rw [pad_len]; omega),pad_len]; congr 1; omega
theorem pad_get0 (b : Nat) (pre r : AHeap) : (pad b pre ++ r)[b]? = r[0]?:=pad_get b pre r 0
theorem pad_set (b : Nat) (pre r : AHeap) (i : Nat) (o : FieldType × List Value) : (pad b pre ++ r).set (b + i) o = pad b pre ++ r.set i o:=by
  rw [List.set_append_right _ _ (by rw [pad_len]; omega),pad_len]; congr 2; omega
theorem pad_set0 (b : Nat) (pre r : AHeap) (o : FieldType × List Value) : (pad b pre ++ r).set b o = pad b pre ++ r.set 0 o:=pad_set b pre r 0 o
theorem rCode_of {ws : Ws} {y : MethodName} {b : ByteArray} {m i : Nat} {r : Option FieldType} (h : ws[i]? = some (.code y b m r)) (h2 : (ws.take i).all (fun d => match d with | .code z _ _ _ => !decide (z = y) | _ => true) = true) : rCode ws y = some (b,m,r):=by
  have e : ws = ws.take i ++ (.code y b m r::ws.drop (i + 1)):=by
    obtain ⟨hi,hg⟩:=List.getElem?_eq_some_iff.mp h
    rw [← hg,← List.drop_eq_getElem_cons hi,List.take_append_drop]
  unfold rCode
  rw [e,List.findSome?_append]
  have e1 : (ws.take i).findSome? (fun d => match d with | .code z b m r => if z = y then some (b,m,r) else none | _ => none) = none:=by
    rw [List.findSome?_eq_none_iff]
    intro d hd
    have q:=List.all_eq_true.mp h2 d hd
    split
    · rename_i z b' m' r'
      simp at q
      simp [q]
    · rfl
  rw [e1]
  simp
theorem cR_of {ws : Ws} {dn : Dn} {y y' : MethodName} {b : ByteArray} {mx i f' l' f l na sl : Nat} {r : Option FieldType} {sig : MethodDescriptor} (h1 : rMth ws y.cls i = some y') (h2 : rCode ws y' = some (b,mx,r)) (h3 : dnOf dn y' = some (f',l')) (h4 : dnOf dn y = some (f,l)) (h5 : parseMethodDescriptor y'.desc = some sig)
    (h6 : decide (hasInit ws y'.cls = true∧Jvm.plainName y'.cls = true∧y'.cls ≠ "java/lang/invoke/MethodHandle" ∧ y'.cls ≠ "java/lang/invoke/VarHandle" ∧ f' + 1≤f∧mx + 11 + l'≤l) = true) (h7 : sig.parameters.length = na) (h8 : l - (mx + 11 + l') = sl) : cR ws dn y i = some (y',b,mx,r,na,sl):=by
  subst h7 h8
  unfold cR
  rw [h1]; dsimp only
  rw [h2,h3,h4,h5]; dsimp only
  rw [if_pos (of_decide_eq_true h6)]
theorem sR_of {ws : Ws} {dn : Dn} {y : MethodName} {i : Nat} {q : MethodName × ByteArray × Nat × Option FieldType × Nat × Nat} (h : cR ws dn y i = some q) (hs : hasStat ws q.1 = true) : sR ws dn y i = some q:=by
  unfold sR; rw [h]; dsimp only; rw [if_pos hs]
theorem nR_of {ws : Ws} {dn : Dn} {y : MethodName} {i : Nat} {q : MethodName × ByteArray × Nat × Option FieldType × Nat × Nat} (h : cR ws dn y i = some q) (h1 : q.1.name = "<init>") (h2 : hasIM ws q.1 = true) (h3 : q.2.2.2.1 = none) : nR ws dn y i = some q:=by
  unfold nR; rw [h]; dsimp only; rw [if_pos ⟨h1,h2,h3⟩]
theorem vR_of {ws : Ws} {dn : Dn} {y : MethodName} {i : Nat} {q : MethodName × ByteArray × Nat × Option FieldType × Nat × Nat} (h : cR ws dn y i = some q) (h1 : hasIM ws q.1 = true) (h2 : decide (hasPriv ws q.1 = true∧(rInst ws q.1.cls).isSome = true) = false) (h3 : decide (hasDecl ws q.1 = true∧hasSel ws q.1 = true) = true) : vR ws dn y i = some (false,q):=by
  unfold vR; rw [h]; dsimp only; rw [if_pos h1,if_neg (of_decide_eq_false h2),if_pos (of_decide_eq_true h3)]
theorem pR_of {ws : Ws} {dn : Dn} {y : MethodName} {i : Nat} {q : MethodName × ByteArray × Nat × Option FieldType × Nat × Nat} (h : cR ws dn y i = some q) (h1 : hasIM ws q.1 = true) (h2 : decide (hasPriv ws q.1 = true∧(rInst ws q.1.cls).isSome = true) = true) : vR ws dn y i = some (true,q):=by
  unfold vR; rw [h]; dsimp only; rw [if_pos h1,if_pos (of_decide_eq_true h2)]
def inB {α : Type} (j : Int32) (l : List α) : Prop:=¬ j < 0∧j.toNatClampNeg < l.length
def getA (l : List Int32) (j : Int32) : Int32:=l.getD j.toNatClampNeg 0
def getL (l : List Int64) (j : Int32) : Int64:=l.getD j.toNatClampNeg 0
def setA {α : Type} (l : List α) (j : Int32) (v : α) : List α:=l.set j.toNatClampNeg v
def c1 : Slot→Bool
  | .unset => true
  | .second => false
  | .val v => v.category == 1
theorem c1_u : c1 .unset = true:=rfl
theorem c1_i (x : Int32) : c1 (.val (.int x)) = true:=rfl
theorem c1_r (a : Nat) : c1 (.val (.ref a)) = true:=rfl
theorem c1_n : c1 (.val .null) = true:=rfl
theorem i_eq (x y : Int32) : if_icmp.holds .eq x y = decide (x = y):=by simp only [if_icmp.holds]; by_cases h : x = y <;> simp [h]
theorem i_ne (x y : Int32) : if_icmp.holds .ne x y = !decide (x = y):=by simp only [if_icmp.holds]; by_cases h : x = y <;> simp [h]
theorem i_lt (x y : Int32) : if_icmp.holds .lt x y = decide (x < y):=rfl
theorem i_gt (x y : Int32) : if_icmp.holds .gt x y = decide (y < x):=rfl
theorem i_ge (x y : Int32) : if_icmp.holds .ge x y = !decide (x < y):=by
  show decide (y≤x) = _
  have e1 : (y≤x) ↔ ¬ (x < y):=by rw [Int32.le_iff_toInt_le,Int32.lt_iff_toInt_lt]; omega
  by_cases h : x < y
  · have : ¬ y≤x:=fun g => e1.mp g h
    simp [h,this]
  · have:=e1.mpr h
    simp [h,this]
theorem i_le (x y : Int32) : if_icmp.holds .le x y = !decide (y < x):=i_ge y x
theorem z_eq (x : Int32) : ifCond.holds .eq x = decide (x = 0):=i_eq x 0
theorem z_ne (x : Int32) : ifCond.holds .ne x = !decide (x = 0):=i_ne x 0
theorem z_lt (x : Int32) : ifCond.holds .lt x = decide (x < 0):=rfl
theorem z_gt (x : Int32) : ifCond.holds .gt x = decide (0 < x):=rfl
theorem z_ge (x : Int32) : ifCond.holds .ge x = !decide (x < 0):=i_ge x 0
theorem z_le (x : Int32) : ifCond.holds .le x = !decide (0 < x):=i_le x 0
theorem nb0 : nar .boolean 0 = 0:=by decide
theorem nb1 : nar .boolean 1 = 1:=by decide
section
variable {ws : Ws} {dn : Dn} {k : Nat} {y : MethodName} {bytes : ByteArray} {ret : Option FieldType} {pc : Nat} {ls : List Slot} {st : List Value} {H : AHeap} {Q : Option Value→AHeap→Prop}
theorem W_stuck (h : act ws dn k y bytes ret pc ls st H = none) : W ws dn k y bytes ret pc ls st H Q = False:=by
  refine propext ⟨fun ⟨n,v,H1,h1,h2⟩ => ?_,False.elim⟩
  cases n with
  | zero => cases h1
  | succ n => rw [run,h] at h1; cases h1
theorem stl_c1 {i : Nat} {o : Slot} {v : Value} (ho : ls[i]? = some o) (hc : c1 o = true) (hv : v.category = 1) : stl ls i v = some (ls.set i (.val v)):=by
  have h:=XS.store1 (l:=ls.toArray) (i:=i) (v:=v) (o:=o) (by simpa using ho) (by
    cases o with
    | unset => exact Or.inl rfl
    | second => cases hc
    | val w => exact Or.inr ⟨w,rfl,by simpa [c1] using hc⟩) hv
  unfold stl
  rw [h]; simp
/-- a store of one word -/
theorem w_st {ins : Instr} {len i : Nat} {o : Slot} {v : Value} {p : Value→Bool} {nx : Nat} {ls' : List Slot} (hd : decode bytes pc = .ok (ins,len)) (hx : xstep ins len pc ls (v::st) = stV p nx i ls (v::st)) (hp : p v = true) (hv : v.category = 1) (ho : ls[i]? = some o) (hs : ls.set i (.val v) = ls') (hc : c1 o = true) :
    W ws dn k y bytes ret pc ls (v::st) H Q = W ws dn k y bytes ret nx ls' st H Q:=by
  subst hs
  exact w_x hd (by rw [hx]; simp only [stV,hp,if_true,stl_c1 ho hc hv,Option.map_some])
theorem w_iinc {i : Nat} {c : Int} {x z : Int32} {ls' : List Slot} (hd : decode bytes pc = .ok (.iinc i c,3)) (ho : ls[i]? = some (.val (.int x))) (hz : Int32.ofInt c = z) (hs : ls.set i (.val (.int (x + z))) = ls') :
    W ws dn k y bytes ret pc ls st H Q = W ws dn k y bytes ret (pc + 3) ls' st H Q:=by
  subst hs hz
  exact w_x hd (by simp only [xstep,chk,if_true,ho,stl_c1 (v:=.int (x + Int32.ofInt c)) ho rfl rfl,Option.map_some])
theorem w_con {ins : Instr} {len nx : Nat} {v v' : Value} (hd : decode bytes pc = .ok (ins,len)) (hx : xstep ins len pc ls st = some (nx,ls,v::st)) (hv : v = v') : W ws dn k y bytes ret pc ls st H Q = W ws dn k y bytes ret nx ls (v'::st) H Q:=by
  subst hv; exact w_x hd hx
theorem w_ifN {cd : ClassFile.Cond} {o : Int} {x : Int32} {t : Nat} {P : Prop} [Decidable P] (hd : decode bytes pc = .ok (.ifCond cd o,3)) (hp : ifCond.holds cd x = !decide P) (hj : jmp pc o = some t) :
    W ws dn k y bytes ret pc ls (.int x::st) H Q = if P then W ws dn k y bytes ret (pc + 3) ls st H Q else W ws dn k y bytes ret t ls st H Q:=by
  split
  · exact w_x hd (by simp only [xstep,chk,br,hp,hj,if_true]; simp [*])
  · exact w_x hd (by simp only [xstep,chk,br,hp,hj,if_true]; simp [*])
theorem w_icmpN {cd : ClassFile.Cond} {o : Int} {x1 x2 : Int32} {t : Nat} {P : Prop} [Decidable P] (hd : decode bytes pc = .ok (.if_icmp cd o,3)) (hp : if_icmp.holds cd x1 x2 = !decide P) (hj : jmp pc o = some t) :
    W ws dn k y bytes ret pc ls (.int x2::.int x1::st) H Q = if P then W ws dn k y bytes ret (pc + 3) ls st H Q else W ws dn k y bytes ret t ls st H Q:=by
  split
  · exact w_x hd (by simp only [xstep,chk,br,hp,hj,if_true]; simp [*])
  · exact w_x hd (by simp only [xstep,chk,br,hp,hj,if_true]; simp [*])
theorem ld_stuck {ins : Instr} {a : Nat} {j : Int32} {ty : FieldType} {vs : List Value} (hd : decode bytes pc = .ok (ins,1)) (hi : ldOk ins ty = true) (ho : H[a]? = some (.array ty,vs)) (hj : ¬ (¬ j < 0∧j.toNatClampNeg < vs.length)) : act ws dn k y bytes ret pc ls (.int j::.ref a::st) H = none:=by
  have hv : j < 0 ∨ vs[j.toNatClampNeg]? = none:=by
    by_cases q : j < 0
    · exact Or.inl q
    · exact Or.inr (List.getElem?_eq_none (Nat.le_of_not_lt fun g => hj ⟨q,g⟩))
  unfold ldOk at hi
  split at hi
  all_goals first
    | (rw [act_c hd rfl (by rcases hv with q | q <;> simp [hstep,chk,hLd,okT,okB,ho,q])]; rfl)
    | cases hi
theorem st_stuck {ins : Instr} {a : Nat} {j : Int32} {ty : FieldType} {vs : List Value} {v : Value} (hd : decode bytes pc = .ok (ins,1)) (hi : stOk ins ty = true) (ho : H[a]? = some (.array ty,vs)) (hj : ¬ (¬ j < 0∧j.toNatClampNeg < vs.length)) : act ws dn k y bytes ret pc ls (v::.int j::.ref a::st) H = none:=by
  have hv : ¬ (¬ j < 0∧j.toNatClampNeg < vs.length):=hj
  unfold stOk at hi
  split at hi
  all_goals first
    | (rw [act_c hd rfl (by simp only [hstep,chk,hSt,okT,okB,ho,if_true]; rw [if_neg (fun q => hv q.2.2)])]; rfl)
    | cases hi
theorem w_ild {ins : Instr} {a : Nat} {j : Int32} {ty : FieldType} {l : List Int32} (hd : decode bytes pc = .ok (ins,1)) (hi : ldOk ins ty = true) (ho : H[a]? = some (.array ty,l.map Value.int)) :
    W ws dn k y bytes ret pc ls (.int j::.ref a::st) H Q = (inB j l∧W ws dn k y bytes ret (pc + 1) ls (.int (getA l j)::st) H Q):=by
  by_cases h : inB j l
  · rw [w_ald hd hi ho h.1 (v:=.int (getA l j)) (by simp [getA,h.2])]
    simp [h]
  · rw [W_stuck (ld_stuck hd hi ho (by simpa [inB] using h))]
    simp [h]
theorem w_lld {a : Nat} {j : Int32} {l : List Int64} (hd : decode bytes pc = .ok (.laload,1)) (ho : H[a]? = some (.array .long,l.map Value.long)) :
    W ws dn k y bytes ret pc ls (.int j::.ref a::st) H Q = (inB j l∧W ws dn k y bytes ret (pc + 1) ls (.long (getL l j)::st) H Q):=by
  by_cases h : inB j l
  · rw [w_ald hd rfl ho h.1 (v:=.long (getL l j)) (by simp [getL,h.2])]
    simp [h]
  · rw [W_stuck (ld_stuck hd rfl ho (by simpa [inB] using h))]
    simp [h]
theorem w_ist {ins : Instr} {a : Nat} {j v v' : Int32} {ty : FieldType} {l : List Int32} {H' : AHeap} (hd : decode bytes pc = .ok (ins,1)) (hi : stOk ins ty = true) (ho : H[a]? = some (.array ty,l.map Value.int)) (hk : k≤a) (hv : putv ty (.int v) = some (.int v')) (hH : H.set a (.array ty,(setA l j v').map Value.int) = H') :
    W ws dn k y bytes ret pc ls (.int v::.int j::.ref a::st) H Q = (inB j l∧W ws dn k y bytes ret (pc + 1) ls st H' Q):=by
  by_cases h : inB j l
  · rw [w_ast (H':=H') hd hi ho hk h.1 (by simpa using h.2) hv (by rw [← hH,setA,List.map_set])]
    simp [h]
  · rw [W_stuck (st_stuck hd hi ho (by simpa [inB] using h))]
    simp [h]
theorem w_lst {a : Nat} {j : Int32} {v : Int64} {l : List Int64} {H' : AHeap} (hd : decode bytes pc = .ok (.lastore,1)) (ho : H[a]? = some (.array .long,l.map Value.long)) (hk : k≤a) (hH : H.set a (.array .long,(setA l j v).map Value.long) = H') :
    W ws dn k y bytes ret pc ls (.long v::.int j::.ref a::st) H Q = (inB j l∧W ws dn k y bytes ret (pc + 1) ls st H' Q):=by
  by_cases h : inB j l
  · rw [w_ast (H':=H') hd rfl ho hk h.1 (by simpa using h.2) rfl (by rw [← hH,setA,List.map_set])]
    simp [h]
  · rw [W_stuck (st_stuck hd rfl ho (by simpa [inB] using h))]
    simp [h]
theorem w_div {ins : Instr} {f : Int32→Int32→Int32} {x z : Int32} (hd : decode bytes pc = .ok (ins,1)) (hx : ∀ st,xstep ins 1 pc ls st = d2 f (pc + 1) ls st) (hh : hstep ws k y ins 1 pc (.int z::.int x::st) H = none) (hc : cstep ws dn y ret ins 1 pc ls (.int z::.int x::st) H = none) :
    W ws dn k y bytes ret pc ls (.int z::.int x::st) H Q = (z ≠ 0∧W ws dn k y bytes ret (pc + 1) ls (.int (f x z)::st) H Q):=by
  by_cases h : z = 0
  · rw [W_stuck (by rw [act_c hd (by rw [hx]; simp [d2,h]) hh,hc])]; simp [h]
  · rw [w_x (pc':=pc + 1) (ls':=ls) (st':=.int (f x z)::st) hd (by rw [hx]; simp only [d2,h,if_false])]; simp [h]
/-- a field's array made in a constructor -/
theorem w_iarr {i j p1 p2 p3 : Nat} {C : String} {vs : List Value} {r : AHeap} {n : Int32} {v : Value} {aty : ArrayType} {ty at' : FieldType} {l0 : Slot} {lr : List Slot} {ins : Instr} {len : Nat} {b : Nat} (hl : l0 = .val (.ref b)) (hH : H.length = b) (hk : k≤b)
    (d0 : decode bytes pc = .ok (.aload_n 0,1)) (e0 : pc + 1 = p1) (dn1 : decode bytes p1 = .ok (ins,len)) (hx : ∀ st,xstep ins len p1 (l0::lr) st = some (p2,l0::lr,v::st)) (hv : v = .int n) (d2' : decode bytes p2 = .ok (.newarray aty,2)) (ht : newarray.typeOf aty = ty) (hr : hasArr ws ty = true) (hn : ¬ n < 0) (hb : n.toNatClampNeg * 8≤536870912) (e3 : p2 + 2 = p3)
    (d3 : decode bytes p3 = .ok (.putfield i,3)) (hp : pfR ws y.cls y.name i = some (C,j,.array at')) (hj : j < vs.length) :
    W ws dn k y bytes ret pc (l0::lr) [] (H ++ (.object C,vs)::r) Q = W ws dn k y bytes ret (p3 + 3) (l0::lr) [] (H ++ (.object C,vs.set j (.ref (b + (r.length + 1))))::(r ++ [(.array ty,List.replicate n.toNatClampNeg (defaultValue ty))])) Q:=by
  subst hl e0 e3 hv hH
  rw [w_x d0 (ls':=.val (.ref H.length)::lr) (st':=[.ref H.length]) (pc':=pc + 1) rfl,w_x dn1 (hx _),w_newA d2' ht hr hn hb]
  have e1 : (H ++ (FieldType.object C,vs)::r).length = H.length + (r.length + 1):=by simp
  rw [e1,w_put d3 hp (vs:=vs) (H':=H ++ (.object C,vs.set j (.ref (H.length + (r.length + 1))))::(r ++ [(.array ty,List.replicate n.toNatClampNeg (defaultValue ty))])) (by simp) hk hj rfl (by simp)]
/-- a field's plain value put at a constructor's head -/
theorem w_iint {i j p1 p2 : Nat} {C : String} {vs : List Value} {r : AHeap} {v v0 v' : Value} {ty : FieldType} {l0 : Slot} {lr : List Slot} {ins : Instr} {len : Nat} {b : Nat} (hl : l0 = .val (.ref b)) (hH : H.length = b) (hk : k≤b)
    (d0 : decode bytes pc = .ok (.aload_n 0,1)) (e0 : pc + 1 = p1) (dn1 : decode bytes p1 = .ok (ins,len)) (hx : ∀ st,xstep ins len p1 (l0::lr) st = some (p2,l0::lr,v0::st)) (hv : v0 = v)
    (d3 : decode bytes p2 = .ok (.putfield i,3)) (hp : pfR ws y.cls y.name i = some (C,j,ty)) (hv' : putv ty v = some v') (hj : j < vs.length) :
    W ws dn k y bytes ret pc (l0::lr) [] (H ++ (.object C,vs)::r) Q = W ws dn k y bytes ret (p2 + 3) (l0::lr) [] (H ++ (.object C,vs.set j v')::r) Q:=by
  subst hl e0 hv hH
  rw [w_x d0 (ls':=.val (.ref H.length)::lr) (st':=[.ref H.length]) (pc':=pc + 1) rfl,w_x dn1 (hx _)]
  rw [w_put d3 hp (vs:=vs) (H':=H ++ (.object C,vs.set j v')::r) (by simp) hk hj hv' (by simp)]
end
end Jvm.Own
namespace Jvm.Own
open Sem ClassFile Op Lib Jvm.Stand Jvm.Free Jvm.LawKit Jvm.RoadKit
theorem getA_rep (n : Nat) (j : Int32) : getA (List.replicate n 0) j = 0:=by
  simp only [getA,List.getD_eq_getElem?_getD,List.getElem?_replicate]
  split <;> rfl
/-- the array's words as plain ints -/
theorem script_of {s : State} {a : Addr} {c : Cell} (hf : Fit s) (A : Arr s s.heap a c .int) (hl : c.slots.size < 2 ^ 31) : ∃ vs : List Int32,c.slots = (vs.map Value.int).toArray:=by
  have h : ∀ v ∈ c.slots.toList,∃ x : Int32,v = .int x:=fun v hv => by
    obtain ⟨i,hi,e⟩:=List.getElem_of_mem hv
    have hi' : i < c.slots.size:=by simpa using hi
    have e1 : (Nat.toInt32 i).toNatClampNeg = i:=by simp only [Int32.toNatClampNeg,len_toInt (Nat.lt_trans hi' hl)]; rfl
    obtain ⟨w,h1,h2⟩:=elem_fit hf A (idx_in hi' hl)
    rw [e1] at h1
    have : w = v:=by rw [Array.getElem?_eq_getElem hi'] at h1; rw [← e]; simpa using (Option.some.inj h1).symm
    subst this
    exact fit_I h2 (by simp)
  have g : ∀ l : List Value,(∀ v ∈ l,∃ x : Int32,v = .int x)→∃ vs : List Int32,l = vs.map Value.int:=fun l => by
    induction l with
    | nil => exact fun _ => ⟨[],rfl⟩
    | cons v r ih =>
      intro q
      obtain ⟨x,rfl⟩:=q _ (List.mem_cons_self ..)
      obtain ⟨vs,e⟩:=ih fun w hw => q w (List.mem_cons_of_mem _ hw)
      exact ⟨x::vs,by rw [e]; rfl⟩
  obtain ⟨vs,e⟩:=g _ h
  exact ⟨vs,by rw [← e]⟩
end Jvm.Own
namespace Jvm.Own
open Sem ClassFile Op Lib Jvm.Stand Jvm.Free Jvm.LawKit Jvm.RoadKit
/-! OWN 8: small facts on arrays and ints -/
theorem toNat_eq (j : Int32) : j.toNatClampNeg = j.toInt.toNat:=rfl
theorem lt_i {x y : Int32} : x < y ↔ x.toInt < y.toInt:=Int32.lt_iff_toInt_lt
theorem inB_iff {α : Type} {j : Int32} {l : List α} : inB j l ↔ 0≤j.toInt∧j.toInt < (l.length : Int):=by
  have e0 : (0 : Int32).toInt = 0:=rfl
  unfold inB
  rw [lt_i,toNat_eq,e0]
  omega
theorem inB_lt {α : Type} {j n : Int32} {l : List α} (hl : (l.length : Int) = n.toInt) (h0 : ¬ j < 0) (h1 : j < n) : inB j l:=by
  have e0 : (0 : Int32).toInt = 0:=rfl
  rw [inB_iff]
  rw [lt_i] at h0 h1
  rw [e0] at h0
  omega
theorem setA_len {α : Type} (l : List α) (j : Int32) (v : α) : (setA l j v).length = l.length:=List.length_set
theorem getA_set {l : List Int32} {i j v : Int32} (h : inB i l) : getA (setA l i v) j = if j.toNatClampNeg = i.toNatClampNeg then v else getA l j:=by
  simp only [getA,setA,List.getD_eq_getElem?_getD,List.getElem?_set]
  by_cases e : j.toNatClampNeg = i.toNatClampNeg
  · rw [e]; simp [h.2]
  · simp [e,Ne.symm e]
theorem getA_set2 (l : List Int32) (i j v : Int32) : getA (setA l i v) j = if j.toNatClampNeg = i.toNatClampNeg∧i.toNatClampNeg < l.length then v else getA l j:=by
  simp only [getA,setA,List.getD_eq_getElem?_getD,List.getElem?_set]
  by_cases e : j.toNatClampNeg = i.toNatClampNeg
  · rw [e]
    by_cases q : i.toNatClampNeg < l.length <;> simp [q]
  · simp [e,Ne.symm e]
theorem len_ou {B A : Nat→List Int32} {j : Nat} {l : List Int32} (h : ∀ i,(A i).length = (B i).length) (hl : l.length = (B j).length) : ∀ i,(ou A j l i).length = (B i).length:=fun i => by
  rw [ou_a]
  split
  · rename_i e; rw [e]; exact hl
  · exact h i
end Jvm.Own
namespace Jvm.Own
open Sem ClassFile Op Lib Jvm.Stand Jvm.Free Jvm.LawKit Jvm.RoadKit
/-! OWN 9: a normal form of states; masks and ranges -/
theorem ou_same {α : Type} (s : Nat→α) (i : Nat) (v w : α) : ou (ou s i v) i w = ou s i w:=by
  funext j
  simp only [ou_a]
  by_cases h : j = i <;> simp [h]
theorem ou_comm {α : Type} {s : Nat→α} {i j : Nat} {v w : α} (h : j < i) : ou (ou s i v) j w = ou (ou s j w) (i + 0) v:=by
  show ou (ou s i v) j w = ou (ou s j w) i v
  funext k
  simp only [ou_a]
  by_cases h1 : k = j
  · have h2 : ¬ k = i:=by omega
    simp [h1]
    intro h3; omega
  · simp [h1]
theorem setA_same {α : Type} (l : List α) (i : Int32) (v w : α) : setA (setA l i v) i w = setA l i w:=by
  simp only [setA,List.set_set]
theorem clamp_ne {i j : Int32} (h0 : ¬ j < 0) (h : j < i) : j.toNatClampNeg ≠ i.toNatClampNeg:=by
  have e0 : (0 : Int32).toInt = 0:=rfl
  rw [lt_i] at *
  rw [toNat_eq,toNat_eq]
  omega
theorem setA_comm {α : Type} {l : List α} {i j : Int32} {v w : α} (h0 : ¬ j < 0) (h : j < i) : setA (setA l i v) j w = setA (setA l j w) (i + 0) v:=by
  rw [Int32.add_zero]
  simp only [setA]
  exact List.set_comm _ _ (Ne.symm (clamp_ne h0 h))
theorem lt_irr (x : Int32) : (x < x) = False:=by
  apply propext
  rw [lt_i]
  constructor
  · intro h; omega
  · exact False.elim
theorem bit1 (x : Int32) : x &&& 1 = 0 ∨ x &&& 1 = 1:=by
  have h : (x &&& 1).toBitVec.toNat = x.toBitVec.toNat % 2:=by
    rw [Int32.toBitVec_and,BitVec.toNat_and]
    exact Nat.and_one_is_mod _
  rcases Nat.mod_two_eq_zero_or_one x.toBitVec.toNat with e | e
  · exact Or.inl (Int32.toBitVec_inj.mp (BitVec.eq_of_toNat_eq (by rw [h,e]; rfl)))
  · exact Or.inr (Int32.toBitVec_inj.mp (BitVec.eq_of_toNat_eq (by rw [h,e]; rfl)))
theorem and_bd (x m : Int32) (hm : m.toBitVec.toNat < 2147483648) : 0≤(x &&& m).toInt∧(x &&& m).toInt≤(m.toBitVec.toNat : Int):=by
  have h : (x &&& m).toBitVec.toNat≤m.toBitVec.toNat:=by
    rw [Int32.toBitVec_and,BitVec.toNat_and]
    exact Nat.and_le_right
  have e : (x &&& m).toInt = ((x &&& m).toBitVec.toNat : Int):=BitVec.toInt_eq_toNat_of_lt (by omega)
  rw [e]
  omega
theorem rng {x : Int32} {n : Nat} (h0 : 0≤x.toInt) (h1 : x.toInt < n) : ∃ k,k < n∧x = Int32.ofNat k:=by
  have e : (x.toInt.toNat : Int) = x.toInt:=Int.toNat_of_nonneg h0
  refine ⟨x.toInt.toNat,by omega,?_⟩
  have e2 : Int32.ofNat x.toInt.toNat = Int32.ofInt (x.toInt.toNat : Int):=rfl
  rw [e2,e,Int32.ofInt_toInt]
theorem getL_rep (n : Nat) (j : Int32) : getL (List.replicate n 0) j = 0:=by
  simp only [getL,List.getD_eq_getElem?_getD,List.getElem?_replicate]
  split <;> rfl
theorem getL_set2 (l : List Int64) (i j : Int32) (v : Int64) : getL (setA l i v) j = if j.toNatClampNeg = i.toNatClampNeg∧i.toNatClampNeg < l.length then v else getL l j:=by
  simp only [getL,setA,List.getD_eq_getElem?_getD,List.getElem?_set]
  by_cases e : j.toNatClampNeg = i.toNatClampNeg
  · rw [e]
    by_cases q : i.toNatClampNeg < l.length <;> simp [q]
  · simp [e,Ne.symm e]
theorem add_i {a b : Int32} (h : -2147483648≤a.toInt + b.toInt) (h' : a.toInt + b.toInt < 2147483648) : (a + b).toInt = a.toInt + b.toInt:=by
  rw [Int32.toInt_add]
  have e : ((2 ^ 32 : Nat) : Int) = 4294967296:=rfl
  exact Int.bmod_eq_of_le (by rw [e]; omega) (by rw [e]; omega)
theorem sub_i {a b : Int32} (h : -2147483648≤a.toInt - b.toInt) (h' : a.toInt - b.toInt < 2147483648) : (a - b).toInt = a.toInt - b.toInt:=by
  rw [Int32.toInt_sub]
  have e : ((2 ^ 32 : Nat) : Int) = 4294967296:=rfl
  exact Int.bmod_eq_of_le (by rw [e]; omega) (by rw [e]; omega)
theorem mul_i {a b : Int32} (h : -2147483648≤a.toInt * b.toInt) (h' : a.toInt * b.toInt < 2147483648) : (a * b).toInt = a.toInt * b.toInt:=by
  rw [Int32.toInt_mul]
  have e : ((2 ^ 32 : Nat) : Int) = 4294967296:=rfl
  exact Int.bmod_eq_of_le (by rw [e]; omega) (by rw [e]; omega)
theorem i_0 : (0 : Int32).toInt = 0:=rfl
theorem i_1 : (1 : Int32).toInt = 1:=rfl
theorem add1_i {a : Int32} (h : a.toInt < 2147483647) : (a + 1).toInt = a.toInt + 1:=by
  have:=Int32.le_toInt a
  exact add_i (by rw [i_1]; omega) (by rw [i_1]; omega)
theorem nn_i {a : Int32} : ¬ a < 0 ↔ 0≤a.toInt:=by rw [lt_i,i_0]; omega
theorem succ_nn {a : Int32} (h0 : ¬ a < 0) (h : a.toInt < 2147483647) : ¬ a + 1 < 0:=by
  rw [nn_i] at *
  rw [add1_i h]
  omega
theorem inB_set {α : Type} {l : List α} {i j : Int32} {v : α} : inB j (setA l i v) = inB j l:=by
  simp only [inB,setA_len]
theorem pad_1 (c : FieldType × List Value) : pad 1 [c] = [c]:=rfl
def okS (l : Slot) : Prop:=l = .unset ∨ ∃ z : Int32,l = .val (.int z)
theorem okS_u : okS .unset:=Or.inl rfl
theorem okS_i (z : Int32) : okS (.val (.int z)):=Or.inr ⟨z,rfl⟩
end Jvm.Own
namespace Jvm.Pilot.@@N@@
open Jvm Jvm.ClassFile Sem Op Lib Jvm.Free Jvm.Stand Jvm.LawKit Jvm.RoadKit Bundle Jvm.Own Jvm.Pilot.@@N@@.Jvm.D
/-- frames and words that each method asks -/
def dn : Dn:=[(⟨"RetimingEngine", "<init>", "()V"⟩,1,12),(⟨"RetimingEngine", "feedInput", "(I)Z"⟩,0,0),(⟨"RetimingEngine", "addEdge", "(III)I"⟩,0,0),(⟨"RetimingEngine", "addVertex", "(III)I"⟩,0,0),(⟨"RetimingEngine", "retime", "()I"⟩,3,49),(⟨"RetimingEngine", "topo", "(I)Z"⟩,1,14),(⟨"RetimingEngine", "period", "(I)I"⟩,1,14),(⟨"RetimingEngine", "computePairs", "()V"⟩,2,32),(⟨"RetimingEngine", "relaxVia", "(I)V"⟩,1,15),(⟨"RetimingEngine", "offer", "(III)V"⟩,0,0),(⟨"RetimingEngine", "searchMin", "()I"⟩,2,32),(⟨"RetimingEngine", "feasible", "(I)Z"⟩,1,18),(⟨"RetimingEngine", "relaxPass", "(I)Z"⟩,0,0),(⟨"RetimingEngine", "applyLags", "()V"⟩,0,0),(⟨"RetimingEngine", "xOf", "(II)I"⟩,0,0),(⟨"RetimingEngine", "reset", "()V"⟩,0,0),(⟨"RetimingEngine", "edgeCount", "()I"⟩,0,0),(⟨"RetimingEngine", "minPeriod", "()I"⟩,0,0),(⟨"RetimingEngine", "originalPeriod", "()I"⟩,0,0),(⟨"RetimingEngine", "retimedPeriod", "()I"⟩,0,0),(⟨"RetimingEngine", "lag", "(I)I"⟩,0,0),(⟨"RetimingEngine", "retimedRegs", "(I)I"⟩,0,0),(⟨"RetimingEngine", "regWeight", "(II)I"⟩,1,14),(⟨"RetimingEngine", "checkPair", "(II)I"⟩,0,0),(⟨"RetimingEngine", "pathDelay", "(II)I"⟩,1,14),(⟨"RetimingEngine", "output", "(II)I"⟩,0,0),(⟨"RetimingEngine", "simulate", "()I"⟩,3,54),(⟨"RetimingEngine", "clearInputs", "()V"⟩,0,0),(⟨"RetimingEngine", "simCircuit", "(II)V"⟩,2,37),(⟨"RetimingEngine", "evalVertex", "(III)I"⟩,1,15),(⟨"RetimingEngineL5", "run", "(LRetimingEngine;[I)V"⟩,4,67),(⟨"RetimingEngineL5", "same", "(LRetimingEngine;LRetimingEngine;)Z"⟩,2,29),(⟨"RetimingEngineL5", "law", "([I)Z"⟩,5,82)]
/- scalars: 0=n 1=m 2=inCount 3=sim 4=retimed 5=pmin 6=origPeriod 7=retPeriod; arrays: 0=vop@1 1=vdel@2 2=vk@3 3=esrc@4 4=edst@5 5=ereg@6 6=enew@7 7=inputs@8 8=outs@9 9=wt@10 10=dd@11 11=reach@12 12=dist@13 13=lagv@14 14=order@15 15=indeg@16 16=arr@17 17=sval@18; longs: []; long arrays: [] -/
def objv (b : Nat) (s : Nat→Int32) : List Value:=[.ref (b + 1),.ref (b + 2),.ref (b + 3),.ref (b + 4),.ref (b + 5),.ref (b + 6),.ref (b + 7),.ref (b + 8),.ref (b + 9),.ref (b + 10),.ref (b + 11),.ref (b + 12),.ref (b + 13),.ref (b + 14),.ref (b + 15),.ref (b + 16),.ref (b + 17),.ref (b + 18),.int (s 0),.int (s 1),.int (s 2),.int (s 3),.int (s 4),.int (s 6),.int (s 5),.int (s 7)]
def put (b : Nat) (pre : AHeap) (s : Nat→Int32) (A : Nat→List Int32) (post : AHeap) : AHeap:=pad b pre ++ ((.object "RetimingEngine", objv b s)::(.array .int,(A 0).map Value.int)::(.array .int,(A 1).map Value.int)::(.array .int,(A 2).map Value.int)::(.array .int,(A 3).map Value.int)::(.array .int,(A 4).map Value.int)::(.array .int,(A 5).map Value.int)::(.array .int,(A 6).map Value.int)::(.array .int,(A 7).map Value.int)::(.array .int,(A 8).map Value.int)::(.array .int,(A 9).map Value.int)::(.array .int,(A 10).map Value.int)::(.array .boolean,(A 11).map Value.int)::(.array .int,(A 12).map Value.int)::(.array .int,(A 13).map Value.int)::(.array .int,(A 14).map Value.int)::(.array .int,(A 15).map Value.int)::(.array .int,(A 16).map Value.int)::(.array .int,(A 17).map Value.int)::post)
theorem put_o {b : Nat} {pre : AHeap} {s : Nat→Int32} {A : Nat→List Int32} {post : AHeap} : (put b pre s A post)[b]? = some (.object "RetimingEngine", objv b s):=pad_get0 _ _ _
theorem put_a0 {b : Nat} {pre : AHeap} {s : Nat→Int32} {A : Nat→List Int32} {post : AHeap} : (put b pre s A post)[b + 1]? = some (.array .int,(A 0).map Value.int):=pad_get _ _ _ 1
theorem put_w0 {b : Nat} {pre : AHeap} {s : Nat→Int32} {A : Nat→List Int32} {post : AHeap} {l : List Int32} : (put b pre s A post).set (b + 1) (.array .int,l.map Value.int) = put b pre s (ou A 0 l) post:=pad_set _ _ _ 1 _
theorem put_a1 {b : Nat} {pre : AHeap} {s : Nat→Int32} {A : Nat→List Int32} {post : AHeap} : (put b pre s A post)[b + 2]? = some (.array .int,(A 1).map Value.int):=pad_get _ _ _ 2
theorem put_w1 {b : Nat} {pre : AHeap} {s : Nat→Int32} {A : Nat→List Int32} {post : AHeap} {l : List Int32} : (put b pre s A post).set (b + 2) (.array .int,l.map Value.int) = put b pre s (ou A 1 l) post:=pad_set _ _ _ 2 _
theorem put_a2 {b : Nat} {pre : AHeap} {s : Nat→Int32} {A : Nat→List Int32} {post : AHeap} : (put b pre s A post)[b + 3]? = some (.array .int,(A 2).map Value.int):=pad_get _ _ _ 3
theorem put_w2 {b : Nat} {pre : AHeap} {s : Nat→Int32} {A : Nat→List Int32} {post : AHeap} {l : List Int32} : (put b pre s A post).set (b + 3) (.array .int,l.map Value.int) = put b pre s (ou A 2 l) post:=pad_set _ _ _ 3 _
theorem put_a3 {b : Nat} {pre : AHeap} {s : Nat→Int32} {A : Nat→List Int32} {post : AHeap} : (put b pre s A post)[b + 4]? = some (.array .int,(A 3).map Value.int):=pad_get _ _ _ 4
theorem put_w3 {b : Nat} {pre : AHeap} {s : Nat→Int32} {A : Nat→List Int32} {post : AHeap} {l : List Int32} : (put b pre s A post).set (b + 4) (.array .int,l.map Value.int) = put b pre s (ou A 3 l) post:=pad_set _ _ _ 4 _
theorem put_a4 {b : Nat} {pre : AHeap} {s : Nat→Int32} {A : Nat→List Int32} {post : AHeap} : (put b pre s A post)[b + 5]? = some (.array .int,(A 4).map Value.int):=pad_get _ _ _ 5
theorem put_w4 {b : Nat} {pre : AHeap} {s : Nat→Int32} {A : Nat→List Int32} {post : AHeap} {l : List Int32} : (put b pre s A post).set (b + 5) (.array .int,l.map Value.int) = put b pre s (ou A 4 l) post:=pad_set _ _ _ 5 _
theorem put_a5 {b : Nat} {pre : AHeap} {s : Nat→Int32} {A : Nat→List Int32} {post : AHeap} : (put b pre s A post)[b + 6]? = some (.array .int,(A 5).map Value.int):=pad_get _ _ _ 6
theorem put_w5 {b : Nat} {pre : AHeap} {s : Nat→Int32} {A : Nat→List Int32} {post : AHeap} {l : List Int32} : (put b pre s A post).set (b + 6) (.array .int,l.map Value.int) = put b pre s (ou A 5 l) post:=pad_set _ _ _ 6 _
theorem put_a6 {b : Nat} {pre : AHeap} {s : Nat→Int32} {A : Nat→List Int32} {post : AHeap} : (put b pre s A post)[b + 7]? = some (.array .int,(A 6).map Value.int):=pad_get _ _ _ 7
theorem put_w6 {b : Nat} {pre : AHeap} {s : Nat→Int32} {A : Nat→List Int32} {post : AHeap} {l : List Int32} : (put b pre s A post).set (b + 7) (.array .int,l.map Value.int) = put b pre s (ou A 6 l) post:=pad_set _ _ _ 7 _
theorem put_a7 {b : Nat} {pre : AHeap} {s : Nat→Int32} {A : Nat→List Int32} {post : AHeap} : (put b pre s A post)[b + 8]? = some (.array .int,(A 7).map Value.int):=pad_get _ _ _ 8
theorem put_w7 {b : Nat} {pre : AHeap} {s : Nat→Int32} {A : Nat→List Int32} {post : AHeap} {l : List Int32} : (put b pre s A post).set (b + 8) (.array .int,l.map Value.int) = put b pre s (ou A 7 l) post:=pad_set _ _ _ 8 _
theorem put_a8 {b : Nat} {pre : AHeap} {s : Nat→Int32} {A : Nat→List Int32} {post : AHeap} : (put b pre s A post)[b + 9]? = some (.array .int,(A 8).map Value.int):=pad_get _ _ _ 9
theorem put_w8 {b : Nat} {pre : AHeap} {s : Nat→Int32} {A : Nat→List Int32} {post : AHeap} {l : List Int32} : (put b pre s A post).set (b + 9) (.array .int,l.map Value.int) = put b pre s (ou A 8 l) post:=pad_set _ _ _ 9 _
theorem put_a9 {b : Nat} {pre : AHeap} {s : Nat→Int32} {A : Nat→List Int32} {post : AHeap} : (put b pre s A post)[b + 10]? = some (.array .int,(A 9).map Value.int):=pad_get _ _ _ 10
theorem put_w9 {b : Nat} {pre : AHeap} {s : Nat→Int32} {A : Nat→List Int32} {post : AHeap} {l : List Int32} : (put b pre s A post).set (b + 10) (.array .int,l.map Value.int) = put b pre s (ou A 9 l) post:=pad_set _ _ _ 10 _
theorem put_a10 {b : Nat} {pre : AHeap} {s : Nat→Int32} {A : Nat→List Int32} {post : AHeap} : (put b pre s A post)[b + 11]? = some (.array .int,(A 10).map Value.int):=pad_get _ _ _ 11
theorem put_w10 {b : Nat} {pre : AHeap} {s : Nat→Int32} {A : Nat→List Int32} {post : AHeap} {l : List Int32} : (put b pre s A post).set (b + 11) (.array .int,l.map Value.int) = put b pre s (ou A 10 l) post:=pad_set _ _ _ 11 _
theorem put_a11 {b : Nat} {pre : AHeap} {s : Nat→Int32} {A : Nat→List Int32} {post : AHeap} : (put b pre s A post)[b + 12]? = some (.array .boolean,(A 11).map Value.int):=pad_get _ _ _ 12
theorem put_w11 {b : Nat} {pre : AHeap} {s : Nat→Int32} {A : Nat→List Int32} {post : AHeap} {l : List Int32} : (put b pre s A post).set (b + 12) (.array .boolean,l.map Value.int) = put b pre s (ou A 11 l) post:=pad_set _ _ _ 12 _
theorem put_a12 {b : Nat} {pre : AHeap} {s : Nat→Int32} {A : Nat→List Int32} {post : AHeap} : (put b pre s A post)[b + 13]? = some (.array .int,(A 12).map Value.int):=pad_get _ _ _ 13
theorem put_w12 {b : Nat} {pre : AHeap} {s : Nat→Int32} {A : Nat→List Int32} {post : AHeap} {l : List Int32} : (put b pre s A post).set (b + 13) (.array .int,l.map Value.int) = put b pre s (ou A 12 l) post:=pad_set _ _ _ 13 _
theorem put_a13 {b : Nat} {pre : AHeap} {s : Nat→Int32} {A : Nat→List Int32} {post : AHeap} : (put b pre s A post)[b + 14]? = some (.array .int,(A 13).map Value.int):=pad_get _ _ _ 14
theorem put_w13 {b : Nat} {pre : AHeap} {s : Nat→Int32} {A : Nat→List Int32} {post : AHeap} {l : List Int32} : (put b pre s A post).set (b + 14) (.array .int,l.map Value.int) = put b pre s (ou A 13 l) post:=pad_set _ _ _ 14 _
theorem put_a14 {b : Nat} {pre : AHeap} {s : Nat→Int32} {A : Nat→List Int32} {post : AHeap} : (put b pre s A post)[b + 15]? = some (.array .int,(A 14).map Value.int):=pad_get _ _ _ 15
theorem put_w14 {b : Nat} {pre : AHeap} {s : Nat→Int32} {A : Nat→List Int32} {post : AHeap} {l : List Int32} : (put b pre s A post).set (b + 15) (.array .int,l.map Value.int) = put b pre s (ou A 14 l) post:=pad_set _ _ _ 15 _
theorem put_a15 {b : Nat} {pre : AHeap} {s : Nat→Int32} {A : Nat→List Int32} {post : AHeap} : (put b pre s A post)[b + 16]? = some (.array .int,(A 15).map Value.int):=pad_get _ _ _ 16
theorem put_w15 {b : Nat} {pre : AHeap} {s : Nat→Int32} {A : Nat→List Int32} {post : AHeap} {l : List Int32} : (put b pre s A post).set (b + 16) (.array .int,l.map Value.int) = put b pre s (ou A 15 l) post:=pad_set _ _ _ 16 _
theorem put_a16 {b : Nat} {pre : AHeap} {s : Nat→Int32} {A : Nat→List Int32} {post : AHeap} : (put b pre s A post)[b + 17]? = some (.array .int,(A 16).map Value.int):=pad_get _ _ _ 17
theorem put_w16 {b : Nat} {pre : AHeap} {s : Nat→Int32} {A : Nat→List Int32} {post : AHeap} {l : List Int32} : (put b pre s A post).set (b + 17) (.array .int,l.map Value.int) = put b pre s (ou A 16 l) post:=pad_set _ _ _ 17 _
theorem put_a17 {b : Nat} {pre : AHeap} {s : Nat→Int32} {A : Nat→List Int32} {post : AHeap} : (put b pre s A post)[b + 18]? = some (.array .int,(A 17).map Value.int):=pad_get _ _ _ 18
theorem put_w17 {b : Nat} {pre : AHeap} {s : Nat→Int32} {A : Nat→List Int32} {post : AHeap} {l : List Int32} : (put b pre s A post).set (b + 18) (.array .int,l.map Value.int) = put b pre s (ou A 17 l) post:=pad_set _ _ _ 18 _
theorem put_s0 {b : Nat} {pre : AHeap} {s : Nat→Int32} {A : Nat→List Int32} {post : AHeap} {v : Int32} : (put b pre s A post).set b (.object "RetimingEngine", (objv b s).set 18 (.int v)) = put b pre (ou s 0 v) A post:=pad_set0 _ _ _ _
theorem put_s1 {b : Nat} {pre : AHeap} {s : Nat→Int32} {A : Nat→List Int32} {post : AHeap} {v : Int32} : (put b pre s A post).set b (.object "RetimingEngine", (objv b s).set 19 (.int v)) = put b pre (ou s 1 v) A post:=pad_set0 _ _ _ _
theorem put_s2 {b : Nat} {pre : AHeap} {s : Nat→Int32} {A : Nat→List Int32} {post : AHeap} {v : Int32} : (put b pre s A post).set b (.object "RetimingEngine", (objv b s).set 20 (.int v)) = put b pre (ou s 2 v) A post:=pad_set0 _ _ _ _
theorem put_s3 {b : Nat} {pre : AHeap} {s : Nat→Int32} {A : Nat→List Int32} {post : AHeap} {v : Int32} : (put b pre s A post).set b (.object "RetimingEngine", (objv b s).set 21 (.int v)) = put b pre (ou s 3 v) A post:=pad_set0 _ _ _ _
theorem put_s4 {b : Nat} {pre : AHeap} {s : Nat→Int32} {A : Nat→List Int32} {post : AHeap} {v : Int32} : (put b pre s A post).set b (.object "RetimingEngine", (objv b s).set 22 (.int v)) = put b pre (ou s 4 v) A post:=pad_set0 _ _ _ _
theorem put_s6 {b : Nat} {pre : AHeap} {s : Nat→Int32} {A : Nat→List Int32} {post : AHeap} {v : Int32} : (put b pre s A post).set b (.object "RetimingEngine", (objv b s).set 23 (.int v)) = put b pre (ou s 6 v) A post:=pad_set0 _ _ _ _
theorem put_s5 {b : Nat} {pre : AHeap} {s : Nat→Int32} {A : Nat→List Int32} {post : AHeap} {v : Int32} : (put b pre s A post).set b (.object "RetimingEngine", (objv b s).set 24 (.int v)) = put b pre (ou s 5 v) A post:=pad_set0 _ _ _ _
theorem put_s7 {b : Nat} {pre : AHeap} {s : Nat→Int32} {A : Nat→List Int32} {post : AHeap} {v : Int32} : (put b pre s A post).set b (.object "RetimingEngine", (objv b s).set 25 (.int v)) = put b pre (ou s 7 v) A post:=pad_set0 _ _ _ _
theorem put_len {b : Nat} {pre : AHeap} {s : Nat→Int32} {A : Nat→List Int32} {post : AHeap} : (put b pre s A post).length = b + 19 + post.length:=by rw [put,List.length_append,pad_len]; simp only [List.length_cons]; omega
theorem inst0 : rInst tables_1 "RetimingEngine" = some 26:=by decide +kernel
theorem put_tot {b : Nat} {pre : AHeap} {s : Nat→Int32} {A : Nat→List Int32} {post : AHeap} : tot tables_1 (put b pre s A post) = tot tables_1 (pad b pre) + (26 + ((A 0).length + ((A 1).length + ((A 2).length + ((A 3).length + ((A 4).length + ((A 5).length + ((A 6).length + ((A 7).length + ((A 8).length + ((A 9).length + ((A 10).length + ((A 11).length + ((A 12).length + ((A 13).length + ((A 14).length + ((A 15).length + ((A 16).length + ((A 17).length + tot tables_1 post))))))))))))))))))):=by rw [put,tot_append]; simp only [tot_cons,cost,List.length_map,inst0,Option.getD_some]
def D0 : List Value:=[.null,.null,.null,.null,.null,.null,.null,.null,.null,.null,.null,.null,.null,.null,.null,.null,.null,.null,.int 0,.int 0,.int 0,.int 0,.int 0,.int 0,.int 0,.int 0]
theorem lay0 : (olay tables_1 "RetimingEngine").map dflt = D0:=by decide +kernel
abbrev y0 : MethodName:=⟨"RetimingEngine", "<init>", "()V"⟩
abbrev kb0 : ByteArray:=prog_1_method_1_code
def M0 (pc : Nat) (ls : List Slot) (st : List Value) (H : AHeap) (Q : Option Value→AHeap→Prop) : Prop:=W tables_1 dn 1 y0 prog_1_method_1_code none pc ls st H Q
abbrev y1 : MethodName:=⟨"RetimingEngine", "feedInput", "(I)Z"⟩
abbrev kb1 : ByteArray:=prog_1_method_13_code
def M1 (pc : Nat) (ls : List Slot) (st : List Value) (H : AHeap) (Q : Option Value→AHeap→Prop) : Prop:=W tables_1 dn 1 y1 prog_1_method_13_code (some .boolean) pc ls st H Q
abbrev y2 : MethodName:=⟨"RetimingEngine", "addEdge", "(III)I"⟩
abbrev kb2 : ByteArray:=prog_1_method_3_code
def M2 (pc : Nat) (ls : List Slot) (st : List Value) (H : AHeap) (Q : Option Value→AHeap→Prop) : Prop:=W tables_1 dn 1 y2 prog_1_method_3_code (some .int) pc ls st H Q
abbrev y3 : MethodName:=⟨"RetimingEngine", "addVertex", "(III)I"⟩
abbrev kb3 : ByteArray:=prog_1_method_2_code
def M3 (pc : Nat) (ls : List Slot) (st : List Value) (H : AHeap) (Q : Option Value→AHeap→Prop) : Prop:=W tables_1 dn 1 y3 prog_1_method_2_code (some .int) pc ls st H Q
abbrev y4 : MethodName:=⟨"RetimingEngine", "retime", "()I"⟩
abbrev kb4 : ByteArray:=prog_1_method_4_code
def M4 (pc : Nat) (ls : List Slot) (st : List Value) (H : AHeap) (Q : Option Value→AHeap→Prop) : Prop:=W tables_1 dn 1 y4 prog_1_method_4_code (some .int) pc ls st H Q
abbrev y5 : MethodName:=⟨"RetimingEngine", "topo", "(I)Z"⟩
abbrev kb5 : ByteArray:=prog_1_method_20_code
def M5 (pc : Nat) (ls : List Slot) (st : List Value) (H : AHeap) (Q : Option Value→AHeap→Prop) : Prop:=W tables_1 dn 1 y5 prog_1_method_20_code (some .boolean) pc ls st H Q
abbrev y6 : MethodName:=⟨"RetimingEngine", "period", "(I)I"⟩
abbrev kb6 : ByteArray:=prog_1_method_21_code
def M6 (pc : Nat) (ls : List Slot) (st : List Value) (H : AHeap) (Q : Option Value→AHeap→Prop) : Prop:=W tables_1 dn 1 y6 prog_1_method_21_code (some .int) pc ls st H Q
abbrev y7 : MethodName:=⟨"RetimingEngine", "computePairs", "()V"⟩
abbrev kb7 : ByteArray:=prog_1_method_23_code
def M7 (pc : Nat) (ls : List Slot) (st : List Value) (H : AHeap) (Q : Option Value→AHeap→Prop) : Prop:=W tables_1 dn 1 y7 prog_1_method_23_code none pc ls st H Q
abbrev y8 : MethodName:=⟨"RetimingEngine", "relaxVia", "(I)V"⟩
abbrev kb8 : ByteArray:=prog_1_method_24_code
def M8 (pc : Nat) (ls : List Slot) (st : List Value) (H : AHeap) (Q : Option Value→AHeap→Prop) : Prop:=W tables_1 dn 1 y8 prog_1_method_24_code none pc ls st H Q
abbrev y9 : MethodName:=⟨"RetimingEngine", "offer", "(III)V"⟩
abbrev kb9 : ByteArray:=prog_1_method_22_code
def M9 (pc : Nat) (ls : List Slot) (st : List Value) (H : AHeap) (Q : Option Value→AHeap→Prop) : Prop:=W tables_1 dn 1 y9 prog_1_method_22_code none pc ls st H Q
abbrev y10 : MethodName:=⟨"RetimingEngine", "searchMin", "()I"⟩
abbrev kb10 : ByteArray:=prog_1_method_25_code
def M10 (pc : Nat) (ls : List Slot) (st : List Value) (H : AHeap) (Q : Option Value→AHeap→Prop) : Prop:=W tables_1 dn 1 y10 prog_1_method_25_code (some .int) pc ls st H Q
abbrev y11 : MethodName:=⟨"RetimingEngine", "feasible", "(I)Z"⟩
abbrev kb11 : ByteArray:=prog_1_method_26_code
def M11 (pc : Nat) (ls : List Slot) (st : List Value) (H : AHeap) (Q : Option Value→AHeap→Prop) : Prop:=W tables_1 dn 1 y11 prog_1_method_26_code (some .boolean) pc ls st H Q
abbrev y12 : MethodName:=⟨"RetimingEngine", "relaxPass", "(I)Z"⟩
abbrev kb12 : ByteArray:=prog_1_method_27_code
def M12 (pc : Nat) (ls : List Slot) (st : List Value) (H : AHeap) (Q : Option Value→AHeap→Prop) : Prop:=W tables_1 dn 1 y12 prog_1_method_27_code (some .boolean) pc ls st H Q
abbrev y13 : MethodName:=⟨"RetimingEngine", "applyLags", "()V"⟩
abbrev kb13 : ByteArray:=prog_1_method_28_code
def M13 (pc : Nat) (ls : List Slot) (st : List Value) (H : AHeap) (Q : Option Value→AHeap→Prop) : Prop:=W tables_1 dn 1 y13 prog_1_method_28_code none pc ls st H Q
abbrev y14 : MethodName:=⟨"RetimingEngine", "xOf", "(II)I"⟩
abbrev kb14 : ByteArray:=prog_1_method_19_code
def M14 (pc : Nat) (ls : List Slot) (st : List Value) (H : AHeap) (Q : Option Value→AHeap→Prop) : Prop:=W tables_1 dn 1 y14 prog_1_method_19_code (some .int) pc ls st H Q
abbrev y15 : MethodName:=⟨"RetimingEngine", "reset", "()V"⟩
abbrev kb15 : ByteArray:=prog_1_method_17_code
def M15 (pc : Nat) (ls : List Slot) (st : List Value) (H : AHeap) (Q : Option Value→AHeap→Prop) : Prop:=W tables_1 dn 1 y15 prog_1_method_17_code none pc ls st H Q
abbrev y16 : MethodName:=⟨"RetimingEngine", "edgeCount", "()I"⟩
abbrev kb16 : ByteArray:=prog_1_method_5_code
def M16 (pc : Nat) (ls : List Slot) (st : List Value) (H : AHeap) (Q : Option Value→AHeap→Prop) : Prop:=W tables_1 dn 1 y16 prog_1_method_5_code (some .int) pc ls st H Q
abbrev y17 : MethodName:=⟨"RetimingEngine", "minPeriod", "()I"⟩
abbrev kb17 : ByteArray:=prog_1_method_7_code
def M17 (pc : Nat) (ls : List Slot) (st : List Value) (H : AHeap) (Q : Option Value→AHeap→Prop) : Prop:=W tables_1 dn 1 y17 prog_1_method_7_code (some .int) pc ls st H Q
abbrev y18 : MethodName:=⟨"RetimingEngine", "originalPeriod", "()I"⟩
abbrev kb18 : ByteArray:=prog_1_method_6_code
def M18 (pc : Nat) (ls : List Slot) (st : List Value) (H : AHeap) (Q : Option Value→AHeap→Prop) : Prop:=W tables_1 dn 1 y18 prog_1_method_6_code (some .int) pc ls st H Q
abbrev y19 : MethodName:=⟨"RetimingEngine", "retimedPeriod", "()I"⟩
abbrev kb19 : ByteArray:=prog_1_method_8_code
def M19 (pc : Nat) (ls : List Slot) (st : List Value) (H : AHeap) (Q : Option Value→AHeap→Prop) : Prop:=W tables_1 dn 1 y19 prog_1_method_8_code (some .int) pc ls st H Q
abbrev y20 : MethodName:=⟨"RetimingEngine", "lag", "(I)I"⟩
abbrev kb20 : ByteArray:=prog_1_method_11_code
def M20 (pc : Nat) (ls : List Slot) (st : List Value) (H : AHeap) (Q : Option Value→AHeap→Prop) : Prop:=W tables_1 dn 1 y20 prog_1_method_11_code (some .int) pc ls st H Q
abbrev y21 : MethodName:=⟨"RetimingEngine", "retimedRegs", "(I)I"⟩
abbrev kb21 : ByteArray:=prog_1_method_12_code
def M21 (pc : Nat) (ls : List Slot) (st : List Value) (H : AHeap) (Q : Option Value→AHeap→Prop) : Prop:=W tables_1 dn 1 y21 prog_1_method_12_code (some .int) pc ls st H Q
abbrev y22 : MethodName:=⟨"RetimingEngine", "regWeight", "(II)I"⟩
abbrev kb22 : ByteArray:=prog_1_method_9_code
def M22 (pc : Nat) (ls : List Slot) (st : List Value) (H : AHeap) (Q : Option Value→AHeap→Prop) : Prop:=W tables_1 dn 1 y22 prog_1_method_9_code (some .int) pc ls st H Q
abbrev y23 : MethodName:=⟨"RetimingEngine", "checkPair", "(II)I"⟩
abbrev kb23 : ByteArray:=prog_1_method_18_code
def M23 (pc : Nat) (ls : List Slot) (st : List Value) (H : AHeap) (Q : Option Value→AHeap→Prop) : Prop:=W tables_1 dn 1 y23 prog_1_method_18_code (some .int) pc ls st H Q
abbrev y24 : MethodName:=⟨"RetimingEngine", "pathDelay", "(II)I"⟩
abbrev kb24 : ByteArray:=prog_1_method_10_code
def M24 (pc : Nat) (ls : List Slot) (st : List Value) (H : AHeap) (Q : Option Value→AHeap→Prop) : Prop:=W tables_1 dn 1 y24 prog_1_method_10_code (some .int) pc ls st H Q
abbrev y25 : MethodName:=⟨"RetimingEngine", "output", "(II)I"⟩
abbrev kb25 : ByteArray:=prog_1_method_16_code
def M25 (pc : Nat) (ls : List Slot) (st : List Value) (H : AHeap) (Q : Option Value→AHeap→Prop) : Prop:=W tables_1 dn 1 y25 prog_1_method_16_code (some .int) pc ls st H Q
abbrev y26 : MethodName:=⟨"RetimingEngine", "simulate", "()I"⟩
abbrev kb26 : ByteArray:=prog_1_method_15_code
def M26 (pc : Nat) (ls : List Slot) (st : List Value) (H : AHeap) (Q : Option Value→AHeap→Prop) : Prop:=W tables_1 dn 1 y26 prog_1_method_15_code (some .int) pc ls st H Q
abbrev y27 : MethodName:=⟨"RetimingEngine", "clearInputs", "()V"⟩
abbrev kb27 : ByteArray:=prog_1_method_14_code
def M27 (pc : Nat) (ls : List Slot) (st : List Value) (H : AHeap) (Q : Option Value→AHeap→Prop) : Prop:=W tables_1 dn 1 y27 prog_1_method_14_code none pc ls st H Q
abbrev y28 : MethodName:=⟨"RetimingEngine", "simCircuit", "(II)V"⟩
abbrev kb28 : ByteArray:=prog_1_method_29_code
def M28 (pc : Nat) (ls : List Slot) (st : List Value) (H : AHeap) (Q : Option Value→AHeap→Prop) : Prop:=W tables_1 dn 1 y28 prog_1_method_29_code none pc ls st H Q
abbrev y29 : MethodName:=⟨"RetimingEngine", "evalVertex", "(III)I"⟩
abbrev kb29 : ByteArray:=prog_1_method_30_code
def M29 (pc : Nat) (ls : List Slot) (st : List Value) (H : AHeap) (Q : Option Value→AHeap→Prop) : Prop:=W tables_1 dn 1 y29 prog_1_method_30_code (some .int) pc ls st H Q
abbrev y30 : MethodName:=⟨"RetimingEngineL5", "run", "(LRetimingEngine;[I)V"⟩
abbrev kb30 : ByteArray:=method_3_code
def M30 (pc : Nat) (ls : List Slot) (st : List Value) (H : AHeap) (Q : Option Value→AHeap→Prop) : Prop:=W tables_1 dn 1 y30 method_3_code none pc ls st H Q
abbrev y31 : MethodName:=⟨"RetimingEngineL5", "same", "(LRetimingEngine;LRetimingEngine;)Z"⟩
abbrev kb31 : ByteArray:=method_4_code
def M31 (pc : Nat) (ls : List Slot) (st : List Value) (H : AHeap) (Q : Option Value→AHeap→Prop) : Prop:=W tables_1 dn 1 y31 method_4_code (some .boolean) pc ls st H Q
abbrev y32 : MethodName:=⟨"RetimingEngineL5", "law", "([I)Z"⟩
abbrev kb32 : ByteArray:=code
def M32 (pc : Nat) (ls : List Slot) (st : List Value) (H : AHeap) (Q : Option Value→AHeap→Prop) : Prop:=W tables_1 dn 1 y32 code (some .boolean) pc ls st H Q
theorem dn_0 : dnOf dn y0 = some (1,12):=by decide +kernel
theorem rc_0 : rCode tables_1 y0 = some (prog_1_method_1_code,1,none):=rCode_of (i:=5) rfl (by decide +kernel)
theorem dn_1 : dnOf dn y1 = some (0,0):=by decide +kernel
theorem rc_1 : rCode tables_1 y1 = some (prog_1_method_13_code,2,some .boolean):=rCode_of (i:=65) rfl (by decide +kernel)
theorem dn_2 : dnOf dn y2 = some (0,0):=by decide +kernel
theorem rc_2 : rCode tables_1 y2 = some (prog_1_method_3_code,4,some .int):=rCode_of (i:=70) rfl (by decide +kernel)
theorem dn_3 : dnOf dn y3 = some (0,0):=by decide +kernel
theorem rc_3 : rCode tables_1 y3 = some (prog_1_method_2_code,4,some .int):=rCode_of (i:=75) rfl (by decide +kernel)
theorem dn_4 : dnOf dn y4 = some (3,49):=by decide +kernel
theorem rc_4 : rCode tables_1 y4 = some (prog_1_method_4_code,1,some .int):=rCode_of (i:=80) rfl (by decide +kernel)
theorem dn_5 : dnOf dn y5 = some (1,14):=by decide +kernel
theorem rc_5 : rCode tables_1 y5 = some (prog_1_method_20_code,7,some .boolean):=rCode_of (i:=84) rfl (by decide +kernel)
theorem dn_6 : dnOf dn y6 = some (1,14):=by decide +kernel
theorem rc_6 : rCode tables_1 y6 = some (prog_1_method_21_code,8,some .int):=rCode_of (i:=88) rfl (by decide +kernel)
theorem dn_7 : dnOf dn y7 = some (2,32):=by decide +kernel
theorem rc_7 : rCode tables_1 y7 = some (prog_1_method_23_code,3,none):=rCode_of (i:=94) rfl (by decide +kernel)
theorem dn_8 : dnOf dn y8 = some (1,15):=by decide +kernel
theorem rc_8 : rCode tables_1 y8 = some (prog_1_method_24_code,6,none):=rCode_of (i:=98) rfl (by decide +kernel)
theorem dn_9 : dnOf dn y9 = some (0,0):=by decide +kernel
theorem rc_9 : rCode tables_1 y9 = some (prog_1_method_22_code,4,none):=rCode_of (i:=102) rfl (by decide +kernel)
theorem dn_10 : dnOf dn y10 = some (2,32):=by decide +kernel
theorem rc_10 : rCode tables_1 y10 = some (prog_1_method_25_code,5,some .int):=rCode_of (i:=106) rfl (by decide +kernel)
theorem dn_11 : dnOf dn y11 = some (1,18):=by decide +kernel
theorem rc_11 : rCode tables_1 y11 = some (prog_1_method_26_code,3,some .boolean):=rCode_of (i:=110) rfl (by decide +kernel)
theorem dn_12 : dnOf dn y12 = some (0,0):=by decide +kernel
theorem rc_12 : rCode tables_1 y12 = some (prog_1_method_27_code,7,some .boolean):=rCode_of (i:=114) rfl (by decide +kernel)
theorem dn_13 : dnOf dn y13 = some (0,0):=by decide +kernel
theorem rc_13 : rCode tables_1 y13 = some (prog_1_method_28_code,2,none):=rCode_of (i:=120) rfl (by decide +kernel)
theorem dn_14 : dnOf dn y14 = some (0,0):=by decide +kernel
theorem rc_14 : rCode tables_1 y14 = some (prog_1_method_19_code,3,some .int):=rCode_of (i:=126) rfl (by decide +kernel)
theorem dn_15 : dnOf dn y15 = some (0,0):=by decide +kernel
theorem rc_15 : rCode tables_1 y15 = some (prog_1_method_17_code,1,none):=rCode_of (i:=131) rfl (by decide +kernel)
theorem dn_16 : dnOf dn y16 = some (0,0):=by decide +kernel
theorem rc_16 : rCode tables_1 y16 = some (prog_1_method_5_code,1,some .int):=rCode_of (i:=139) rfl (by decide +kernel)
theorem dn_17 : dnOf dn y17 = some (0,0):=by decide +kernel
theorem rc_17 : rCode tables_1 y17 = some (prog_1_method_7_code,1,some .int):=rCode_of (i:=144) rfl (by decide +kernel)
theorem dn_18 : dnOf dn y18 = some (0,0):=by decide +kernel
theorem rc_18 : rCode tables_1 y18 = some (prog_1_method_6_code,1,some .int):=rCode_of (i:=149) rfl (by decide +kernel)
theorem dn_19 : dnOf dn y19 = some (0,0):=by decide +kernel
theorem rc_19 : rCode tables_1 y19 = some (prog_1_method_8_code,1,some .int):=rCode_of (i:=154) rfl (by decide +kernel)
theorem dn_20 : dnOf dn y20 = some (0,0):=by decide +kernel
theorem rc_20 : rCode tables_1 y20 = some (prog_1_method_11_code,2,some .int):=rCode_of (i:=159) rfl (by decide +kernel)
theorem dn_21 : dnOf dn y21 = some (0,0):=by decide +kernel
theorem rc_21 : rCode tables_1 y21 = some (prog_1_method_12_code,2,some .int):=rCode_of (i:=165) rfl (by decide +kernel)
theorem dn_22 : dnOf dn y22 = some (1,14):=by decide +kernel
theorem rc_22 : rCode tables_1 y22 = some (prog_1_method_9_code,4,some .int):=rCode_of (i:=170) rfl (by decide +kernel)
theorem dn_23 : dnOf dn y23 = some (0,0):=by decide +kernel
theorem rc_23 : rCode tables_1 y23 = some (prog_1_method_18_code,3,some .int):=rCode_of (i:=174) rfl (by decide +kernel)
theorem dn_24 : dnOf dn y24 = some (1,14):=by decide +kernel
theorem rc_24 : rCode tables_1 y24 = some (prog_1_method_10_code,4,some .int):=rCode_of (i:=179) rfl (by decide +kernel)
theorem dn_25 : dnOf dn y25 = some (0,0):=by decide +kernel
theorem rc_25 : rCode tables_1 y25 = some (prog_1_method_16_code,3,some .int):=rCode_of (i:=184) rfl (by decide +kernel)
theorem dn_26 : dnOf dn y26 = some (3,54):=by decide +kernel
theorem rc_26 : rCode tables_1 y26 = some (prog_1_method_15_code,2,some .int):=rCode_of (i:=189) rfl (by decide +kernel)
theorem dn_27 : dnOf dn y27 = some (0,0):=by decide +kernel
theorem rc_27 : rCode tables_1 y27 = some (prog_1_method_14_code,1,none):=rCode_of (i:=194) rfl (by decide +kernel)
theorem dn_28 : dnOf dn y28 = some (2,37):=by decide +kernel
theorem rc_28 : rCode tables_1 y28 = some (prog_1_method_29_code,6,none):=rCode_of (i:=198) rfl (by decide +kernel)
theorem dn_29 : dnOf dn y29 = some (1,15):=by decide +kernel
theorem rc_29 : rCode tables_1 y29 = some (prog_1_method_30_code,9,some .int):=rCode_of (i:=202) rfl (by decide +kernel)
theorem dn_30 : dnOf dn y30 = some (4,67):=by decide +kernel
theorem rc_30 : rCode tables_1 y30 = some (method_3_code,4,none):=rCode_of (i:=60) rfl (by decide +kernel)
theorem dn_31 : dnOf dn y31 = some (2,29):=by decide +kernel
theorem rc_31 : rCode tables_1 y31 = some (method_4_code,6,some .boolean):=rCode_of (i:=134) rfl (by decide +kernel)
theorem dn_32 : dnOf dn y32 = some (5,82):=by decide +kernel
theorem gf_7 : gfR tables_1 "RetimingEngine" 7 = some ("RetimingEngine", 0):=by decide +kernel
theorem gf_13 : gfR tables_1 "RetimingEngine" 13 = some ("RetimingEngine", 1):=by decide +kernel
theorem gf_16 : gfR tables_1 "RetimingEngine" 16 = some ("RetimingEngine", 2):=by decide +kernel
theorem gf_19 : gfR tables_1 "RetimingEngine" 19 = some ("RetimingEngine", 3):=by decide +kernel
theorem gf_22 : gfR tables_1 "RetimingEngine" 22 = some ("RetimingEngine", 4):=by decide +kernel
theorem gf_25 : gfR tables_1 "RetimingEngine" 25 = some ("RetimingEngine", 5):=by decide +kernel
theorem gf_28 : gfR tables_1 "RetimingEngine" 28 = some ("RetimingEngine", 6):=by decide +kernel
theorem gf_31 : gfR tables_1 "RetimingEngine" 31 = some ("RetimingEngine", 7):=by decide +kernel
theorem gf_34 : gfR tables_1 "RetimingEngine" 34 = some ("RetimingEngine", 8):=by decide +kernel
theorem gf_37 : gfR tables_1 "RetimingEngine" 37 = some ("RetimingEngine", 9):=by decide +kernel
theorem gf_40 : gfR tables_1 "RetimingEngine" 40 = some ("RetimingEngine", 10):=by decide +kernel
theorem gf_43 : gfR tables_1 "RetimingEngine" 43 = some ("RetimingEngine", 11):=by decide +kernel
theorem gf_47 : gfR tables_1 "RetimingEngine" 47 = some ("RetimingEngine", 12):=by decide +kernel
theorem gf_50 : gfR tables_1 "RetimingEngine" 50 = some ("RetimingEngine", 13):=by decide +kernel
theorem gf_53 : gfR tables_1 "RetimingEngine" 53 = some ("RetimingEngine", 14):=by decide +kernel
theorem gf_56 : gfR tables_1 "RetimingEngine" 56 = some ("RetimingEngine", 15):=by decide +kernel
theorem gf_59 : gfR tables_1 "RetimingEngine" 59 = some ("RetimingEngine", 16):=by decide +kernel
theorem gf_62 : gfR tables_1 "RetimingEngine" 62 = some ("RetimingEngine", 17):=by decide +kernel
theorem gf_65 : gfR tables_1 "RetimingEngine" 65 = some ("RetimingEngine", 18):=by decide +kernel
theorem gf_69 : gfR tables_1 "RetimingEngine" 69 = some ("RetimingEngine", 19):=by decide +kernel
theorem gf_72 : gfR tables_1 "RetimingEngine" 72 = some ("RetimingEngine", 20):=by decide +kernel
theorem gf_75 : gfR tables_1 "RetimingEngine" 75 = some ("RetimingEngine", 21):=by decide +kernel
theorem gf_78 : gfR tables_1 "RetimingEngine" 78 = some ("RetimingEngine", 22):=by decide +kernel
theorem gf_82 : gfR tables_1 "RetimingEngine" 82 = some ("RetimingEngine", 24):=by decide +kernel
theorem gf_93 : gfR tables_1 "RetimingEngine" 93 = some ("RetimingEngine", 23):=by decide +kernel
theorem gf_109 : gfR tables_1 "RetimingEngine" 109 = some ("RetimingEngine", 25):=by decide +kernel
section Rules
variable {b r q : Nat} {pre : AHeap} {s : Nat→Int32} {A : Nat→List Int32} {post : AHeap} {ls : List Slot} {st : List Value} {H R : AHeap} {Q : Option Value→AHeap→Prop} {x y v z j : Int32} {J1 J2 : Int64} {sc : List Int32} {l0 l1 l2 l3 l4 l5 l6 l7 l8 : Slot}
theorem m0_0 : M0 0 [.val (.ref r)] st H Q = M0 1 [.val (.ref r)] (.ref r::st) H Q:=w_x (show decode kb0 0 = .ok (.aload_n 0,1) from by decide +kernel) rfl
theorem m0_1 : M0 1 ls [.ref r] H Q = M0 4 ls [] H Q:=w_obj (show decode kb0 1 = .ok (.invokespecial 1,3) from by decide +kernel) (sl:=0) (by decide +kernel) (by decide)
theorem m0_4 : M0 4 [.val (.ref r)] st H Q = M0 5 [.val (.ref r)] (.ref r::st) H Q:=w_x (show decode kb0 4 = .ok (.aload_n 0,1) from by decide +kernel) rfl
theorem m0_5 : M0 5 ls st H Q = M0 7 ls (.int 32::st) H Q:=w_con (show decode kb0 5 = .ok (.bipush 32,2) from by decide +kernel) rfl (by decide)
theorem m0_12 : M0 12 [.val (.ref r)] st H Q = M0 13 [.val (.ref r)] (.ref r::st) H Q:=w_x (show decode kb0 12 = .ok (.aload_n 0,1) from by decide +kernel) rfl
theorem m0_13 : M0 13 ls st H Q = M0 15 ls (.int 32::st) H Q:=w_con (show decode kb0 13 = .ok (.bipush 32,2) from by decide +kernel) rfl (by decide)
theorem m0_20 : M0 20 [.val (.ref r)] st H Q = M0 21 [.val (.ref r)] (.ref r::st) H Q:=w_x (show decode kb0 20 = .ok (.aload_n 0,1) from by decide +kernel) rfl
theorem m0_21 : M0 21 ls st H Q = M0 23 ls (.int 32::st) H Q:=w_con (show decode kb0 21 = .ok (.bipush 32,2) from by decide +kernel) rfl (by decide)
theorem m0_28 : M0 28 [.val (.ref r)] st H Q = M0 29 [.val (.ref r)] (.ref r::st) H Q:=w_x (show decode kb0 28 = .ok (.aload_n 0,1) from by decide +kernel) rfl
theorem m0_29 : M0 29 ls st H Q = M0 31 ls (.int 64::st) H Q:=w_con (show decode kb0 29 = .ok (.bipush 64,2) from by decide +kernel) rfl (by decide)
theorem m0_36 : M0 36 [.val (.ref r)] st H Q = M0 37 [.val (.ref r)] (.ref r::st) H Q:=w_x (show decode kb0 36 = .ok (.aload_n 0,1) from by decide +kernel) rfl
theorem m0_37 : M0 37 ls st H Q = M0 39 ls (.int 64::st) H Q:=w_con (show decode kb0 37 = .ok (.bipush 64,2) from by decide +kernel) rfl (by decide)
theorem m0_44 : M0 44 [.val (.ref r)] st H Q = M0 45 [.val (.ref r)] (.ref r::st) H Q:=w_x (show decode kb0 44 = .ok (.aload_n 0,1) from by decide +kernel) rfl
theorem m0_45 : M0 45 ls st H Q = M0 47 ls (.int 64::st) H Q:=w_con (show decode kb0 45 = .ok (.bipush 64,2) from by decide +kernel) rfl (by decide)
theorem m0_52 : M0 52 [.val (.ref r)] st H Q = M0 53 [.val (.ref r)] (.ref r::st) H Q:=w_x (show decode kb0 52 = .ok (.aload_n 0,1) from by decide +kernel) rfl
theorem m0_53 : M0 53 ls st H Q = M0 55 ls (.int 64::st) H Q:=w_con (show decode kb0 53 = .ok (.bipush 64,2) from by decide +kernel) rfl (by decide)
theorem m0_60 : M0 60 [.val (.ref r)] st H Q = M0 61 [.val (.ref r)] (.ref r::st) H Q:=w_x (show decode kb0 60 = .ok (.aload_n 0,1) from by decide +kernel) rfl
theorem m0_61 : M0 61 ls st H Q = M0 63 ls (.int 32::st) H Q:=w_con (show decode kb0 61 = .ok (.bipush 32,2) from by decide +kernel) rfl (by decide)
theorem m0_68 : M0 68 [.val (.ref r)] st H Q = M0 69 [.val (.ref r)] (.ref r::st) H Q:=w_x (show decode kb0 68 = .ok (.aload_n 0,1) from by decide +kernel) rfl
theorem m0_69 : M0 69 ls st H Q = M0 71 ls (.int 64::st) H Q:=w_con (show decode kb0 69 = .ok (.bipush 64,2) from by decide +kernel) rfl (by decide)
theorem m0_76 : M0 76 [.val (.ref r)] st H Q = M0 77 [.val (.ref r)] (.ref r::st) H Q:=w_x (show decode kb0 76 = .ok (.aload_n 0,1) from by decide +kernel) rfl
theorem m0_77 : M0 77 ls st H Q = M0 80 ls (.int 1024::st) H Q:=w_con (show decode kb0 77 = .ok (.sipush 1024,3) from by decide +kernel) rfl (by decide)
theorem m0_85 : M0 85 [.val (.ref r)] st H Q = M0 86 [.val (.ref r)] (.ref r::st) H Q:=w_x (show decode kb0 85 = .ok (.aload_n 0,1) from by decide +kernel) rfl
theorem m0_86 : M0 86 ls st H Q = M0 89 ls (.int 1024::st) H Q:=w_con (show decode kb0 86 = .ok (.sipush 1024,3) from by decide +kernel) rfl (by decide)
theorem m0_94 : M0 94 [.val (.ref r)] st H Q = M0 95 [.val (.ref r)] (.ref r::st) H Q:=w_x (show decode kb0 94 = .ok (.aload_n 0,1) from by decide +kernel) rfl
theorem m0_95 : M0 95 ls st H Q = M0 98 ls (.int 1024::st) H Q:=w_con (show decode kb0 95 = .ok (.sipush 1024,3) from by decide +kernel) rfl (by decide)
theorem m0_103 : M0 103 [.val (.ref r)] st H Q = M0 104 [.val (.ref r)] (.ref r::st) H Q:=w_x (show decode kb0 103 = .ok (.aload_n 0,1) from by decide +kernel) rfl
theorem m0_104 : M0 104 ls st H Q = M0 106 ls (.int 32::st) H Q:=w_con (show decode kb0 104 = .ok (.bipush 32,2) from by decide +kernel) rfl (by decide)
theorem m0_111 : M0 111 [.val (.ref r)] st H Q = M0 112 [.val (.ref r)] (.ref r::st) H Q:=w_x (show decode kb0 111 = .ok (.aload_n 0,1) from by decide +kernel) rfl
theorem m0_112 : M0 112 ls st H Q = M0 114 ls (.int 32::st) H Q:=w_con (show decode kb0 112 = .ok (.bipush 32,2) from by decide +kernel) rfl (by decide)
theorem m0_119 : M0 119 [.val (.ref r)] st H Q = M0 120 [.val (.ref r)] (.ref r::st) H Q:=w_x (show decode kb0 119 = .ok (.aload_n 0,1) from by decide +kernel) rfl
theorem m0_120 : M0 120 ls st H Q = M0 122 ls (.int 32::st) H Q:=w_con (show decode kb0 120 = .ok (.bipush 32,2) from by decide +kernel) rfl (by decide)
theorem m0_127 : M0 127 [.val (.ref r)] st H Q = M0 128 [.val (.ref r)] (.ref r::st) H Q:=w_x (show decode kb0 127 = .ok (.aload_n 0,1) from by decide +kernel) rfl
theorem m0_128 : M0 128 ls st H Q = M0 130 ls (.int 32::st) H Q:=w_con (show decode kb0 128 = .ok (.bipush 32,2) from by decide +kernel) rfl (by decide)
theorem m0_135 : M0 135 [.val (.ref r)] st H Q = M0 136 [.val (.ref r)] (.ref r::st) H Q:=w_x (show decode kb0 135 = .ok (.aload_n 0,1) from by decide +kernel) rfl
theorem m0_136 : M0 136 ls st H Q = M0 138 ls (.int 32::st) H Q:=w_con (show decode kb0 136 = .ok (.bipush 32,2) from by decide +kernel) rfl (by decide)
theorem m0_143 : M0 143 [.val (.ref r)] st H Q = M0 144 [.val (.ref r)] (.ref r::st) H Q:=w_x (show decode kb0 143 = .ok (.aload_n 0,1) from by decide +kernel) rfl
theorem m0_144 : M0 144 ls st H Q = M0 147 ls (.int 1024::st) H Q:=w_con (show decode kb0 144 = .ok (.sipush 1024,3) from by decide +kernel) rfl (by decide)
theorem m0_152 : M0 152 [.val (.ref r)] st H Q = M0 153 [.val (.ref r)] (.ref r::st) H Q:=w_x (show decode kb0 152 = .ok (.aload_n 0,1) from by decide +kernel) rfl
theorem m0_153 : M0 153 ls st H Q = M0 154 ls (.int 0::st) H Q:=w_con (show decode kb0 153 = .ok (.iconst 0,1) from by decide +kernel) rfl (by decide)
theorem pf0_65 : pfR tables_1 y0.cls y0.name 65 = some ("RetimingEngine", 18,.int):=by decide +kernel
theorem m0_154 : M0 154 ls (.int v::.ref (b + 1)::st) (put (b + 1) pre s A post) Q = M0 157 ls st (put (b + 1) pre (ou s 0 v) A post) Q:=w_put (show decode kb0 154 = .ok (.putfield 65,3) from by decide +kernel) pf0_65 put_o (Nat.succ_le_succ (Nat.zero_le _)) (by show 18 < 26; omega) rfl put_s0
theorem m0_157 : M0 157 [.val (.ref r)] st H Q = M0 158 [.val (.ref r)] (.ref r::st) H Q:=w_x (show decode kb0 157 = .ok (.aload_n 0,1) from by decide +kernel) rfl
theorem m0_158 : M0 158 ls st H Q = M0 159 ls (.int 0::st) H Q:=w_con (show decode kb0 158 = .ok (.iconst 0,1) from by decide +kernel) rfl (by decide)
theorem pf0_69 : pfR tables_1 y0.cls y0.name 69 = some ("RetimingEngine", 19,.int):=by decide +kernel
theorem m0_159 : M0 159 ls (.int v::.ref (b + 1)::st) (put (b + 1) pre s A post) Q = M0 162 ls st (put (b + 1) pre (ou s 1 v) A post) Q:=w_put (show decode kb0 159 = .ok (.putfield 69,3) from by decide +kernel) pf0_69 put_o (Nat.succ_le_succ (Nat.zero_le _)) (by show 19 < 26; omega) rfl put_s1
theorem m0_162 : M0 162 [.val (.ref r)] st H Q = M0 163 [.val (.ref r)] (.ref r::st) H Q:=w_x (show decode kb0 162 = .ok (.aload_n 0,1) from by decide +kernel) rfl
theorem m0_163 : M0 163 ls st H Q = M0 164 ls (.int 0::st) H Q:=w_con (show decode kb0 163 = .ok (.iconst 0,1) from by decide +kernel) rfl (by decide)
theorem pf0_72 : pfR tables_1 y0.cls y0.name 72 = some ("RetimingEngine", 20,.int):=by decide +kernel
theorem m0_164 : M0 164 ls (.int v::.ref (b + 1)::st) (put (b + 1) pre s A post) Q = M0 167 ls st (put (b + 1) pre (ou s 2 v) A post) Q:=w_put (show decode kb0 164 = .ok (.putfield 72,3) from by decide +kernel) pf0_72 put_o (Nat.succ_le_succ (Nat.zero_le _)) (by show 20 < 26; omega) rfl put_s2
theorem m0_167 : M0 167 [.val (.ref r)] st H Q = M0 168 [.val (.ref r)] (.ref r::st) H Q:=w_x (show decode kb0 167 = .ok (.aload_n 0,1) from by decide +kernel) rfl
theorem m0_168 : M0 168 ls st H Q = M0 169 ls (.int 0::st) H Q:=w_con (show decode kb0 168 = .ok (.iconst 0,1) from by decide +kernel) rfl (by decide)
theorem pf0_75 : pfR tables_1 y0.cls y0.name 75 = some ("RetimingEngine", 21,.int):=by decide +kernel
theorem m0_169 : M0 169 ls (.int v::.ref (b + 1)::st) (put (b + 1) pre s A post) Q = M0 172 ls st (put (b + 1) pre (ou s 3 v) A post) Q:=w_put (show decode kb0 169 = .ok (.putfield 75,3) from by decide +kernel) pf0_75 put_o (Nat.succ_le_succ (Nat.zero_le _)) (by show 21 < 26; omega) rfl put_s3
theorem m0_172 : M0 172 [.val (.ref r)] st H Q = M0 173 [.val (.ref r)] (.ref r::st) H Q:=w_x (show decode kb0 172 = .ok (.aload_n 0,1) from by decide +kernel) rfl
theorem m0_173 : M0 173 ls st H Q = M0 174 ls (.int 0::st) H Q:=w_con (show decode kb0 173 = .ok (.iconst 0,1) from by decide +kernel) rfl (by decide)
theorem pf0_78 : pfR tables_1 y0.cls y0.name 78 = some ("RetimingEngine", 22,.boolean):=by decide +kernel
theorem m0_174 : M0 174 ls (.int v::.ref (b + 1)::st) (put (b + 1) pre s A post) Q = M0 177 ls st (put (b + 1) pre (ou s 4 (nar .boolean v)) A post) Q:=w_put (show decode kb0 174 = .ok (.putfield 78,3) from by decide +kernel) pf0_78 put_o (Nat.succ_le_succ (Nat.zero_le _)) (by show 22 < 26; omega) rfl put_s4
theorem m0_177 : M0 177 ls [] H Q = Q none H:=w_vret (show decode kb0 177 = .ok (.return_,1) from by decide +kernel) rfl
theorem m1_0 : M1 0 [.val (.ref r),l1] st H Q = M1 1 [.val (.ref r),l1] (.ref r::st) H Q:=w_x (show decode kb1 0 = .ok (.aload_n 0,1) from by decide +kernel) rfl
theorem m1_1 : M1 1 ls (.ref (b + 1)::st) (put (b + 1) pre s A post) Q = M1 4 ls (.int (s 2)::st) (put (b + 1) pre s A post) Q:=w_get (show decode kb1 1 = .ok (.getfield 72,3) from by decide +kernel) gf_72 put_o rfl
theorem m1_4 : M1 4 ls st H Q = M1 6 ls (.int 32::st) H Q:=w_con (show decode kb1 4 = .ok (.bipush 32,2) from by decide +kernel) rfl (by decide)
theorem m1_6 : M1 6 ls (.int y::.int x::st) H Q = if x < y then M1 11 ls st H Q else M1 9 ls st H Q:=w_icmp (show decode kb1 6 = .ok (.if_icmp .lt 5,3) from by decide +kernel) (i_lt x y) rfl
theorem m1_9 : M1 9 ls st H Q = M1 10 ls (.int 0::st) H Q:=w_con (show decode kb1 9 = .ok (.iconst 0,1) from by decide +kernel) rfl (by decide)
theorem m1_10 : M1 10 ls (.int z::st) H Q = Q (some (.int (nar .boolean z))) H:=w_iretN (show decode kb1 10 = .ok (.ireturn,1) from by decide +kernel) rfl (by simp)
theorem m1_11 : M1 11 [.val (.ref r),l1] st H Q = M1 12 [.val (.ref r),l1] (.ref r::st) H Q:=w_x (show decode kb1 11 = .ok (.aload_n 0,1) from by decide +kernel) rfl
theorem m1_12 : M1 12 ls (.ref (b + 1)::st) (put (b + 1) pre s A post) Q = M1 15 ls (.ref ((b + 1) + 8)::st) (put (b + 1) pre s A post) Q:=w_get (show decode kb1 12 = .ok (.getfield 31,3) from by decide +kernel) gf_31 put_o rfl
theorem m1_15 : M1 15 [.val (.ref r),l1] st H Q = M1 16 [.val (.ref r),l1] (.ref r::st) H Q:=w_x (show decode kb1 15 = .ok (.aload_n 0,1) from by decide +kernel) rfl
theorem m1_16 : M1 16 ls (.ref (b + 1)::st) (put (b + 1) pre s A post) Q = M1 19 ls (.int (s 2)::st) (put (b + 1) pre s A post) Q:=w_get (show decode kb1 16 = .ok (.getfield 72,3) from by decide +kernel) gf_72 put_o rfl
theorem m1_19 : M1 19 [l0,.val (.int v)] st H Q = M1 20 [l0,.val (.int v)] (.int v::st) H Q:=w_x (show decode kb1 19 = .ok (.iload_n 1,1) from by decide +kernel) rfl
theorem m1_20  : M1 20 ls (.int v::.int j::.ref ((b + 1) + 8)::st) (put (b + 1) pre s A post) Q = (inB j (A 7)∧M1 21 ls st (put (b + 1) pre s (ou A 7 (setA (A 7) j v)) post) Q):=w_ist (show decode kb1 20 = .ok (.iastore,1) from by decide +kernel) rfl put_a7 (by omega) rfl put_w7
theorem m1_21 : M1 21 [.val (.ref r),l1] st H Q = M1 22 [.val (.ref r),l1] (.ref r::st) H Q:=w_x (show decode kb1 21 = .ok (.aload_n 0,1) from by decide +kernel) rfl
theorem m1_22 : M1 22 ls ((.ref r)::st) H Q = M1 23 ls ((.ref r)::(.ref r)::st) H Q:=w_x (show decode kb1 22 = .ok (.dup,1) from by decide +kernel) rfl
theorem m1_23 : M1 23 ls (.ref (b + 1)::st) (put (b + 1) pre s A post) Q = M1 26 ls (.int (s 2)::st) (put (b + 1) pre s A post) Q:=w_get (show decode kb1 23 = .ok (.getfield 72,3) from by decide +kernel) gf_72 put_o rfl
theorem m1_26 : M1 26 ls st H Q = M1 27 ls (.int 1::st) H Q:=w_con (show decode kb1 26 = .ok (.iconst 1,1) from by decide +kernel) rfl (by decide)
theorem m1_27 : M1 27 ls (.int y::.int x::st) H Q = M1 28 ls (.int (x + y)::st) H Q:=w_x (show decode kb1 27 = .ok (.iadd,1) from by decide +kernel) rfl
theorem pf1_72 : pfR tables_1 y1.cls y1.name 72 = some ("RetimingEngine", 20,.int):=by decide +kernel
theorem m1_28 : M1 28 ls (.int v::.ref (b + 1)::st) (put (b + 1) pre s A post) Q = M1 31 ls st (put (b + 1) pre (ou s 2 v) A post) Q:=w_put (show decode kb1 28 = .ok (.putfield 72,3) from by decide +kernel) pf1_72 put_o (Nat.succ_le_succ (Nat.zero_le _)) (by show 20 < 26; omega) rfl put_s2
theorem m1_31 : M1 31 ls st H Q = M1 32 ls (.int 1::st) H Q:=w_con (show decode kb1 31 = .ok (.iconst 1,1) from by decide +kernel) rfl (by decide)
theorem m1_32 : M1 32 ls (.int z::st) H Q = Q (some (.int (nar .boolean z))) H:=w_iretN (show decode kb1 32 = .ok (.ireturn,1) from by decide +kernel) rfl (by simp)
theorem m2_0 : M2 0 [l0,.val (.int v),l2,l3] st H Q = M2 1 [l0,.val (.int v),l2,l3] (.int v::st) H Q:=w_x (show decode kb2 0 = .ok (.iload_n 1,1) from by decide +kernel) rfl
theorem m2_1 : M2 1 ls (.int x::st) H Q = if x < 0 then M2 24 ls st H Q else M2 4 ls st H Q:=w_if (show decode kb2 1 = .ok (.ifCond .lt 23,3) from by decide +kernel) (z_lt x) rfl
theorem m2_4 : M2 4 [l0,.val (.int v),l2,l3] st H Q = M2 5 [l0,.val (.int v),l2,l3] (.int v::st) H Q:=w_x (show decode kb2 4 = .ok (.iload_n 1,1) from by decide +kernel) rfl
theorem m2_5 : M2 5 [.val (.ref r),l1,l2,l3] st H Q = M2 6 [.val (.ref r),l1,l2,l3] (.ref r::st) H Q:=w_x (show decode kb2 5 = .ok (.aload_n 0,1) from by decide +kernel) rfl
theorem m2_6 : M2 6 ls (.ref (b + 1)::st) (put (b + 1) pre s A post) Q = M2 9 ls (.int (s 0)::st) (put (b + 1) pre s A post) Q:=w_get (show decode kb2 6 = .ok (.getfield 65,3) from by decide +kernel) gf_65 put_o rfl
theorem m2_9 : M2 9 ls (.int y::.int x::st) H Q = if x < y then M2 12 ls st H Q else M2 24 ls st H Q:=w_icmpN (show decode kb2 9 = .ok (.if_icmp .ge 15,3) from by decide +kernel) (i_ge x y) rfl
theorem m2_12 : M2 12 [l0,l1,.val (.int v),l3] st H Q = M2 13 [l0,l1,.val (.int v),l3] (.int v::st) H Q:=w_x (show decode kb2 12 = .ok (.iload_n 2,1) from by decide +kernel) rfl
theorem m2_13 : M2 13 ls (.int x::st) H Q = if x < 0 then M2 24 ls st H Q else M2 16 ls st H Q:=w_if (show decode kb2 13 = .ok (.ifCond .lt 11,3) from by decide +kernel) (z_lt x) rfl
theorem m2_16 : M2 16 [l0,l1,.val (.int v),l3] st H Q = M2 17 [l0,l1,.val (.int v),l3] (.int v::st) H Q:=w_x (show decode kb2 16 = .ok (.iload_n 2,1) from by decide +kernel) rfl
theorem m2_17 : M2 17 [.val (.ref r),l1,l2,l3] st H Q = M2 18 [.val (.ref r),l1,l2,l3] (.ref r::st) H Q:=w_x (show decode kb2 17 = .ok (.aload_n 0,1) from by decide +kernel) rfl
theorem m2_18 : M2 18 ls (.ref (b + 1)::st) (put (b + 1) pre s A post) Q = M2 21 ls (.int (s 0)::st) (put (b + 1) pre s A post) Q:=w_get (show decode kb2 18 = .ok (.getfield 65,3) from by decide +kernel) gf_65 put_o rfl
theorem m2_21 : M2 21 ls (.int y::.int x::st) H Q = if x < y then M2 27 ls st H Q else M2 24 ls st H Q:=w_icmp (show decode kb2 21 = .ok (.if_icmp .lt 6,3) from by decide +kernel) (i_lt x y) rfl
theorem m2_24 : M2 24 ls st H Q = M2 26 ls (.int (-2)::st) H Q:=w_con (show decode kb2 24 = .ok (.bipush (-2),2) from by decide +kernel) rfl (by decide)
theorem m2_26 : M2 26 ls (.int z::st) H Q = Q (some (.int z)) H:=w_iret (show decode kb2 26 = .ok (.ireturn,1) from by decide +kernel) rfl
theorem m2_27 : M2 27 [l0,l1,l2,.val (.int v)] st H Q = M2 28 [l0,l1,l2,.val (.int v)] (.int v::st) H Q:=w_x (show decode kb2 27 = .ok (.iload_n 3,1) from by decide +kernel) rfl
theorem m2_28 : M2 28 ls (.int x::st) H Q = if x < 0 then M2 37 ls st H Q else M2 31 ls st H Q:=w_if (show decode kb2 28 = .ok (.ifCond .lt 9,3) from by decide +kernel) (z_lt x) rfl
theorem m2_31 : M2 31 [l0,l1,l2,.val (.int v)] st H Q = M2 32 [l0,l1,l2,.val (.int v)] (.int v::st) H Q:=w_x (show decode kb2 31 = .ok (.iload_n 3,1) from by decide +kernel) rfl
theorem m2_32 : M2 32 ls st H Q = M2 34 ls (.int 7::st) H Q:=w_con (show decode kb2 32 = .ok (.bipush 7,2) from by decide +kernel) rfl (by decide)
theorem m2_34 : M2 34 ls (.int y::.int x::st) H Q = if y < x then M2 37 ls st H Q else M2 40 ls st H Q:=w_icmpN (show decode kb2 34 = .ok (.if_icmp .le 6,3) from by decide +kernel) (i_le x y) rfl
theorem m2_37 : M2 37 ls st H Q = M2 39 ls (.int (-2)::st) H Q:=w_con (show decode kb2 37 = .ok (.bipush (-2),2) from by decide +kernel) rfl (by decide)
theorem m2_39 : M2 39 ls (.int z::st) H Q = Q (some (.int z)) H:=w_iret (show decode kb2 39 = .ok (.ireturn,1) from by decide +kernel) rfl
theorem m2_40 : M2 40 [.val (.ref r),l1,l2,l3] st H Q = M2 41 [.val (.ref r),l1,l2,l3] (.ref r::st) H Q:=w_x (show decode kb2 40 = .ok (.aload_n 0,1) from by decide +kernel) rfl
theorem m2_41 : M2 41 ls (.ref (b + 1)::st) (put (b + 1) pre s A post) Q = M2 44 ls (.int (s 1)::st) (put (b + 1) pre s A post) Q:=w_get (show decode kb2 41 = .ok (.getfield 69,3) from by decide +kernel) gf_69 put_o rfl
theorem m2_44 : M2 44 ls st H Q = M2 46 ls (.int 64::st) H Q:=w_con (show decode kb2 44 = .ok (.bipush 64,2) from by decide +kernel) rfl (by decide)
theorem m2_46 : M2 46 ls (.int y::.int x::st) H Q = if x < y then M2 52 ls st H Q else M2 49 ls st H Q:=w_icmp (show decode kb2 46 = .ok (.if_icmp .lt 6,3) from by decide +kernel) (i_lt x y) rfl
theorem m2_49 : M2 49 ls st H Q = M2 51 ls (.int (-3)::st) H Q:=w_con (show decode kb2 49 = .ok (.bipush (-3),2) from by decide +kernel) rfl (by decide)
theorem m2_51 : M2 51 ls (.int z::st) H Q = Q (some (.int z)) H:=w_iret (show decode kb2 51 = .ok (.ireturn,1) from by decide +kernel) rfl
theorem m2_52 : M2 52 [.val (.ref r),l1,l2,l3] st H Q = M2 53 [.val (.ref r),l1,l2,l3] (.ref r::st) H Q:=w_x (show decode kb2 52 = .ok (.aload_n 0,1) from by decide +kernel) rfl
theorem m2_53 : M2 53 ls (.ref (b + 1)::st) (put (b + 1) pre s A post) Q = M2 56 ls (.ref ((b + 1) + 4)::st) (put (b + 1) pre s A post) Q:=w_get (show decode kb2 53 = .ok (.getfield 19,3) from by decide +kernel) gf_19 put_o rfl
theorem m2_56 : M2 56 [.val (.ref r),l1,l2,l3] st H Q = M2 57 [.val (.ref r),l1,l2,l3] (.ref r::st) H Q:=w_x (show decode kb2 56 = .ok (.aload_n 0,1) from by decide +kernel) rfl
theorem m2_57 : M2 57 ls (.ref (b + 1)::st) (put (b + 1) pre s A post) Q = M2 60 ls (.int (s 1)::st) (put (b + 1) pre s A post) Q:=w_get (show decode kb2 57 = .ok (.getfield 69,3) from by decide +kernel) gf_69 put_o rfl
theorem m2_60 : M2 60 [l0,.val (.int v),l2,l3] st H Q = M2 61 [l0,.val (.int v),l2,l3] (.int v::st) H Q:=w_x (show decode kb2 60 = .ok (.iload_n 1,1) from by decide +kernel) rfl
theorem m2_61  : M2 61 ls (.int v::.int j::.ref ((b + 1) + 4)::st) (put (b + 1) pre s A post) Q = (inB j (A 3)∧M2 62 ls st (put (b + 1) pre s (ou A 3 (setA (A 3) j v)) post) Q):=w_ist (show decode kb2 61 = .ok (.iastore,1) from by decide +kernel) rfl put_a3 (by omega) rfl put_w3
theorem m2_62 : M2 62 [.val (.ref r),l1,l2,l3] st H Q = M2 63 [.val (.ref r),l1,l2,l3] (.ref r::st) H Q:=w_x (show decode kb2 62 = .ok (.aload_n 0,1) from by decide +kernel) rfl
theorem m2_63 : M2 63 ls (.ref (b + 1)::st) (put (b + 1) pre s A post) Q = M2 66 ls (.ref ((b + 1) + 5)::st) (put (b + 1) pre s A post) Q:=w_get (show decode kb2 63 = .ok (.getfield 22,3) from by decide +kernel) gf_22 put_o rfl
theorem m2_66 : M2 66 [.val (.ref r),l1,l2,l3] st H Q = M2 67 [.val (.ref r),l1,l2,l3] (.ref r::st) H Q:=w_x (show decode kb2 66 = .ok (.aload_n 0,1) from by decide +kernel) rfl
theorem m2_67 : M2 67 ls (.ref (b + 1)::st) (put (b + 1) pre s A post) Q = M2 70 ls (.int (s 1)::st) (put (b + 1) pre s A post) Q:=w_get (show decode kb2 67 = .ok (.getfield 69,3) from by decide +kernel) gf_69 put_o rfl
theorem m2_70 : M2 70 [l0,l1,.val (.int v),l3] st H Q = M2 71 [l0,l1,.val (.int v),l3] (.int v::st) H Q:=w_x (show decode kb2 70 = .ok (.iload_n 2,1) from by decide +kernel) rfl
theorem m2_71  : M2 71 ls (.int v::.int j::.ref ((b + 1) + 5)::st) (put (b + 1) pre s A post) Q = (inB j (A 4)∧M2 72 ls st (put (b + 1) pre s (ou A 4 (setA (A 4) j v)) post) Q):=w_ist (show decode kb2 71 = .ok (.iastore,1) from by decide +kernel) rfl put_a4 (by omega) rfl put_w4
theorem m2_72 : M2 72 [.val (.ref r),l1,l2,l3] st H Q = M2 73 [.val (.ref r),l1,l2,l3] (.ref r::st) H Q:=w_x (show decode kb2 72 = .ok (.aload_n 0,1) from by decide +kernel) rfl
theorem m2_73 : M2 73 ls (.ref (b + 1)::st) (put (b + 1) pre s A post) Q = M2 76 ls (.ref ((b + 1) + 6)::st) (put (b + 1) pre s A post) Q:=w_get (show decode kb2 73 = .ok (.getfield 25,3) from by decide +kernel) gf_25 put_o rfl
theorem m2_76 : M2 76 [.val (.ref r),l1,l2,l3] st H Q = M2 77 [.val (.ref r),l1,l2,l3] (.ref r::st) H Q:=w_x (show decode kb2 76 = .ok (.aload_n 0,1) from by decide +kernel) rfl
theorem m2_77 : M2 77 ls (.ref (b + 1)::st) (put (b + 1) pre s A post) Q = M2 80 ls (.int (s 1)::st) (put (b + 1) pre s A post) Q:=w_get (show decode kb2 77 = .ok (.getfield 69,3) from by decide +kernel) gf_69 put_o rfl
theorem m2_80 : M2 80 [l0,l1,l2,.val (.int v)] st H Q = M2 81 [l0,l1,l2,.val (.int v)] (.int v::st) H Q:=w_x (show decode kb2 80 = .ok (.iload_n 3,1) from by decide +kernel) rfl
theorem m2_81  : M2 81 ls (.int v::.int j::.ref ((b + 1) + 6)::st) (put (b + 1) pre s A post) Q = (inB j (A 5)∧M2 82 ls st (put (b + 1) pre s (ou A 5 (setA (A 5) j v)) post) Q):=w_ist (show decode kb2 81 = .ok (.iastore,1) from by decide +kernel) rfl put_a5 (by omega) rfl put_w5
theorem m2_82 : M2 82 [.val (.ref r),l1,l2,l3] st H Q = M2 83 [.val (.ref r),l1,l2,l3] (.ref r::st) H Q:=w_x (show decode kb2 82 = .ok (.aload_n 0,1) from by decide +kernel) rfl
theorem m2_83 : M2 83 ls ((.ref r)::st) H Q = M2 84 ls ((.ref r)::(.ref r)::st) H Q:=w_x (show decode kb2 83 = .ok (.dup,1) from by decide +kernel) rfl
theorem m2_84 : M2 84 ls (.ref (b + 1)::st) (put (b + 1) pre s A post) Q = M2 87 ls (.int (s 1)::st) (put (b + 1) pre s A post) Q:=w_get (show decode kb2 84 = .ok (.getfield 69,3) from by decide +kernel) gf_69 put_o rfl
theorem m2_87 : M2 87 ls st H Q = M2 88 ls (.int 1::st) H Q:=w_con (show decode kb2 87 = .ok (.iconst 1,1) from by decide +kernel) rfl (by decide)
theorem m2_88 : M2 88 ls (.int y::.int x::st) H Q = M2 89 ls (.int (x + y)::st) H Q:=w_x (show decode kb2 88 = .ok (.iadd,1) from by decide +kernel) rfl
theorem pf2_69 : pfR tables_1 y2.cls y2.name 69 = some ("RetimingEngine", 19,.int):=by decide +kernel
theorem m2_89 : M2 89 ls (.int v::.ref (b + 1)::st) (put (b + 1) pre s A post) Q = M2 92 ls st (put (b + 1) pre (ou s 1 v) A post) Q:=w_put (show decode kb2 89 = .ok (.putfield 69,3) from by decide +kernel) pf2_69 put_o (Nat.succ_le_succ (Nat.zero_le _)) (by show 19 < 26; omega) rfl put_s1
theorem m2_92 : M2 92 [.val (.ref r),l1,l2,l3] st H Q = M2 93 [.val (.ref r),l1,l2,l3] (.ref r::st) H Q:=w_x (show decode kb2 92 = .ok (.aload_n 0,1) from by decide +kernel) rfl
theorem m2_93 : M2 93 ls st H Q = M2 94 ls (.int 0::st) H Q:=w_con (show decode kb2 93 = .ok (.iconst 0,1) from by decide +kernel) rfl (by decide)
theorem pf2_78 : pfR tables_1 y2.cls y2.name 78 = some ("RetimingEngine", 22,.boolean):=by decide +kernel
theorem m2_94 : M2 94 ls (.int v::.ref (b + 1)::st) (put (b + 1) pre s A post) Q = M2 97 ls st (put (b + 1) pre (ou s 4 (nar .boolean v)) A post) Q:=w_put (show decode kb2 94 = .ok (.putfield 78,3) from by decide +kernel) pf2_78 put_o (Nat.succ_le_succ (Nat.zero_le _)) (by show 22 < 26; omega) rfl put_s4
theorem m2_97 : M2 97 [.val (.ref r),l1,l2,l3] st H Q = M2 98 [.val (.ref r),l1,l2,l3] (.ref r::st) H Q:=w_x (show decode kb2 97 = .ok (.aload_n 0,1) from by decide +kernel) rfl
theorem m2_98 : M2 98 ls st H Q = M2 99 ls (.int 0::st) H Q:=w_con (show decode kb2 98 = .ok (.iconst 0,1) from by decide +kernel) rfl (by decide)
theorem pf2_75 : pfR tables_1 y2.cls y2.name 75 = some ("RetimingEngine", 21,.int):=by decide +kernel
theorem m2_99 : M2 99 ls (.int v::.ref (b + 1)::st) (put (b + 1) pre s A post) Q = M2 102 ls st (put (b + 1) pre (ou s 3 v) A post) Q:=w_put (show decode kb2 99 = .ok (.putfield 75,3) from by decide +kernel) pf2_75 put_o (Nat.succ_le_succ (Nat.zero_le _)) (by show 21 < 26; omega) rfl put_s3
theorem m2_102 : M2 102 [.val (.ref r),l1,l2,l3] st H Q = M2 103 [.val (.ref r),l1,l2,l3] (.ref r::st) H Q:=w_x (show decode kb2 102 = .ok (.aload_n 0,1) from by decide +kernel) rfl
theorem m2_103 : M2 103 ls (.ref (b + 1)::st) (put (b + 1) pre s A post) Q = M2 106 ls (.int (s 1)::st) (put (b + 1) pre s A post) Q:=w_get (show decode kb2 103 = .ok (.getfield 69,3) from by decide +kernel) gf_69 put_o rfl
theorem m2_106 : M2 106 ls st H Q = M2 107 ls (.int 1::st) H Q:=w_con (show decode kb2 106 = .ok (.iconst 1,1) from by decide +kernel) rfl (by decide)
theorem m2_107 : M2 107 ls (.int y::.int x::st) H Q = M2 108 ls (.int (x - y)::st) H Q:=w_x (show decode kb2 107 = .ok (.isub,1) from by decide +kernel) rfl
theorem m2_108 : M2 108 ls (.int z::st) H Q = Q (some (.int z)) H:=w_iret (show decode kb2 108 = .ok (.ireturn,1) from by decide +kernel) rfl
theorem m3_0 : M3 0 [l0,.val (.int v),l2,l3] st H Q = M3 1 [l0,.val (.int v),l2,l3] (.int v::st) H Q:=w_x (show decode kb3 0 = .ok (.iload_n 1,1) from by decide +kernel) rfl
theorem m3_1 : M3 1 ls (.int x::st) H Q = if x < 0 then M3 9 ls st H Q else M3 4 ls st H Q:=w_if (show decode kb3 1 = .ok (.ifCond .lt 8,3) from by decide +kernel) (z_lt x) rfl
theorem m3_4 : M3 4 [l0,.val (.int v),l2,l3] st H Q = M3 5 [l0,.val (.int v),l2,l3] (.int v::st) H Q:=w_x (show decode kb3 4 = .ok (.iload_n 1,1) from by decide +kernel) rfl
theorem m3_5 : M3 5 ls st H Q = M3 6 ls (.int 3::st) H Q:=w_con (show decode kb3 5 = .ok (.iconst 3,1) from by decide +kernel) rfl (by decide)
theorem m3_6 : M3 6 ls (.int y::.int x::st) H Q = if y < x then M3 9 ls st H Q else M3 12 ls st H Q:=w_icmpN (show decode kb3 6 = .ok (.if_icmp .le 6,3) from by decide +kernel) (i_le x y) rfl
theorem m3_9 : M3 9 ls st H Q = M3 11 ls (.int (-2)::st) H Q:=w_con (show decode kb3 9 = .ok (.bipush (-2),2) from by decide +kernel) rfl (by decide)
theorem m3_11 : M3 11 ls (.int z::st) H Q = Q (some (.int z)) H:=w_iret (show decode kb3 11 = .ok (.ireturn,1) from by decide +kernel) rfl
theorem m3_12 : M3 12 [l0,l1,.val (.int v),l3] st H Q = M3 13 [l0,l1,.val (.int v),l3] (.int v::st) H Q:=w_x (show decode kb3 12 = .ok (.iload_n 2,1) from by decide +kernel) rfl
theorem m3_13 : M3 13 ls (.int x::st) H Q = if x < 0 then M3 22 ls st H Q else M3 16 ls st H Q:=w_if (show decode kb3 13 = .ok (.ifCond .lt 9,3) from by decide +kernel) (z_lt x) rfl
theorem m3_16 : M3 16 [l0,l1,.val (.int v),l3] st H Q = M3 17 [l0,l1,.val (.int v),l3] (.int v::st) H Q:=w_x (show decode kb3 16 = .ok (.iload_n 2,1) from by decide +kernel) rfl
theorem m3_17 : M3 17 ls st H Q = M3 19 ls (.int 15::st) H Q:=w_con (show decode kb3 17 = .ok (.bipush 15,2) from by decide +kernel) rfl (by decide)
theorem m3_19 : M3 19 ls (.int y::.int x::st) H Q = if y < x then M3 22 ls st H Q else M3 25 ls st H Q:=w_icmpN (show decode kb3 19 = .ok (.if_icmp .le 6,3) from by decide +kernel) (i_le x y) rfl
theorem m3_22 : M3 22 ls st H Q = M3 24 ls (.int (-2)::st) H Q:=w_con (show decode kb3 22 = .ok (.bipush (-2),2) from by decide +kernel) rfl (by decide)
theorem m3_24 : M3 24 ls (.int z::st) H Q = Q (some (.int z)) H:=w_iret (show decode kb3 24 = .ok (.ireturn,1) from by decide +kernel) rfl
theorem m3_25 : M3 25 [.val (.ref r),l1,l2,l3] st H Q = M3 26 [.val (.ref r),l1,l2,l3] (.ref r::st) H Q:=w_x (show decode kb3 25 = .ok (.aload_n 0,1) from by decide +kernel) rfl
theorem m3_26 : M3 26 ls (.ref (b + 1)::st) (put (b + 1) pre s A post) Q = M3 29 ls (.int (s 0)::st) (put (b + 1) pre s A post) Q:=w_get (show decode kb3 26 = .ok (.getfield 65,3) from by decide +kernel) gf_65 put_o rfl
theorem m3_29 : M3 29 ls st H Q = M3 31 ls (.int 32::st) H Q:=w_con (show decode kb3 29 = .ok (.bipush 32,2) from by decide +kernel) rfl (by decide)
theorem m3_31 : M3 31 ls (.int y::.int x::st) H Q = if x < y then M3 37 ls st H Q else M3 34 ls st H Q:=w_icmp (show decode kb3 31 = .ok (.if_icmp .lt 6,3) from by decide +kernel) (i_lt x y) rfl
theorem m3_34 : M3 34 ls st H Q = M3 36 ls (.int (-3)::st) H Q:=w_con (show decode kb3 34 = .ok (.bipush (-3),2) from by decide +kernel) rfl (by decide)
theorem m3_36 : M3 36 ls (.int z::st) H Q = Q (some (.int z)) H:=w_iret (show decode kb3 36 = .ok (.ireturn,1) from by decide +kernel) rfl
theorem m3_37 : M3 37 [.val (.ref r),l1,l2,l3] st H Q = M3 38 [.val (.ref r),l1,l2,l3] (.ref r::st) H Q:=w_x (show decode kb3 37 = .ok (.aload_n 0,1) from by decide +kernel) rfl
theorem m3_38 : M3 38 ls (.ref (b + 1)::st) (put (b + 1) pre s A post) Q = M3 41 ls (.ref ((b + 1) + 1)::st) (put (b + 1) pre s A post) Q:=w_get (show decode kb3 38 = .ok (.getfield 7,3) from by decide +kernel) gf_7 put_o rfl
theorem m3_41 : M3 41 [.val (.ref r),l1,l2,l3] st H Q = M3 42 [.val (.ref r),l1,l2,l3] (.ref r::st) H Q:=w_x (show decode kb3 41 = .ok (.aload_n 0,1) from by decide +kernel) rfl
theorem m3_42 : M3 42 ls (.ref (b + 1)::st) (put (b + 1) pre s A post) Q = M3 45 ls (.int (s 0)::st) (put (b + 1) pre s A post) Q:=w_get (show decode kb3 42 = .ok (.getfield 65,3) from by decide +kernel) gf_65 put_o rfl
theorem m3_45 : M3 45 [l0,.val (.int v),l2,l3] st H Q = M3 46 [l0,.val (.int v),l2,l3] (.int v::st) H Q:=w_x (show decode kb3 45 = .ok (.iload_n 1,1) from by decide +kernel) rfl
theorem m3_46  : M3 46 ls (.int v::.int j::.ref ((b + 1) + 1)::st) (put (b + 1) pre s A post) Q = (inB j (A 0)∧M3 47 ls st (put (b + 1) pre s (ou A 0 (setA (A 0) j v)) post) Q):=w_ist (show decode kb3 46 = .ok (.iastore,1) from by decide +kernel) rfl put_a0 (by omega) rfl put_w0
theorem m3_47 : M3 47 [.val (.ref r),l1,l2,l3] st H Q = M3 48 [.val (.ref r),l1,l2,l3] (.ref r::st) H Q:=w_x (show decode kb3 47 = .ok (.aload_n 0,1) from by decide +kernel) rfl
theorem m3_48 : M3 48 ls (.ref (b + 1)::st) (put (b + 1) pre s A post) Q = M3 51 ls (.ref ((b + 1) + 2)::st) (put (b + 1) pre s A post) Q:=w_get (show decode kb3 48 = .ok (.getfield 13,3) from by decide +kernel) gf_13 put_o rfl
theorem m3_51 : M3 51 [.val (.ref r),l1,l2,l3] st H Q = M3 52 [.val (.ref r),l1,l2,l3] (.ref r::st) H Q:=w_x (show decode kb3 51 = .ok (.aload_n 0,1) from by decide +kernel) rfl
theorem m3_52 : M3 52 ls (.ref (b + 1)::st) (put (b + 1) pre s A post) Q = M3 55 ls (.int (s 0)::st) (put (b + 1) pre s A post) Q:=w_get (show decode kb3 52 = .ok (.getfield 65,3) from by decide +kernel) gf_65 put_o rfl
theorem m3_55 : M3 55 [l0,l1,.val (.int v),l3] st H Q = M3 56 [l0,l1,.val (.int v),l3] (.int v::st) H Q:=w_x (show decode kb3 55 = .ok (.iload_n 2,1) from by decide +kernel) rfl
theorem m3_56  : M3 56 ls (.int v::.int j::.ref ((b + 1) + 2)::st) (put (b + 1) pre s A post) Q = (inB j (A 1)∧M3 57 ls st (put (b + 1) pre s (ou A 1 (setA (A 1) j v)) post) Q):=w_ist (show decode kb3 56 = .ok (.iastore,1) from by decide +kernel) rfl put_a1 (by omega) rfl put_w1
theorem m3_57 : M3 57 [.val (.ref r),l1,l2,l3] st H Q = M3 58 [.val (.ref r),l1,l2,l3] (.ref r::st) H Q:=w_x (show decode kb3 57 = .ok (.aload_n 0,1) from by decide +kernel) rfl
theorem m3_58 : M3 58 ls (.ref (b + 1)::st) (put (b + 1) pre s A post) Q = M3 61 ls (.ref ((b + 1) + 3)::st) (put (b + 1) pre s A post) Q:=w_get (show decode kb3 58 = .ok (.getfield 16,3) from by decide +kernel) gf_16 put_o rfl
theorem m3_61 : M3 61 [.val (.ref r),l1,l2,l3] st H Q = M3 62 [.val (.ref r),l1,l2,l3] (.ref r::st) H Q:=w_x (show decode kb3 61 = .ok (.aload_n 0,1) from by decide +kernel) rfl
theorem m3_62 : M3 62 ls (.ref (b + 1)::st) (put (b + 1) pre s A post) Q = M3 65 ls (.int (s 0)::st) (put (b + 1) pre s A post) Q:=w_get (show decode kb3 62 = .ok (.getfield 65,3) from by decide +kernel) gf_65 put_o rfl
theorem m3_65 : M3 65 [l0,l1,l2,.val (.int v)] st H Q = M3 66 [l0,l1,l2,.val (.int v)] (.int v::st) H Q:=w_x (show decode kb3 65 = .ok (.iload_n 3,1) from by decide +kernel) rfl
theorem m3_66  : M3 66 ls (.int v::.int j::.ref ((b + 1) + 3)::st) (put (b + 1) pre s A post) Q = (inB j (A 2)∧M3 67 ls st (put (b + 1) pre s (ou A 2 (setA (A 2) j v)) post) Q):=w_ist (show decode kb3 66 = .ok (.iastore,1) from by decide +kernel) rfl put_a2 (by omega) rfl put_w2
theorem m3_67 : M3 67 [.val (.ref r),l1,l2,l3] st H Q = M3 68 [.val (.ref r),l1,l2,l3] (.ref r::st) H Q:=w_x (show decode kb3 67 = .ok (.aload_n 0,1) from by decide +kernel) rfl
theorem m3_68 : M3 68 ls ((.ref r)::st) H Q = M3 69 ls ((.ref r)::(.ref r)::st) H Q:=w_x (show decode kb3 68 = .ok (.dup,1) from by decide +kernel) rfl
theorem m3_69 : M3 69 ls (.ref (b + 1)::st) (put (b + 1) pre s A post) Q = M3 72 ls (.int (s 0)::st) (put (b + 1) pre s A post) Q:=w_get (show decode kb3 69 = .ok (.getfield 65,3) from by decide +kernel) gf_65 put_o rfl
theorem m3_72 : M3 72 ls st H Q = M3 73 ls (.int 1::st) H Q:=w_con (show decode kb3 72 = .ok (.iconst 1,1) from by decide +kernel) rfl (by decide)
theorem m3_73 : M3 73 ls (.int y::.int x::st) H Q = M3 74 ls (.int (x + y)::st) H Q:=w_x (show decode kb3 73 = .ok (.iadd,1) from by decide +kernel) rfl
theorem pf3_65 : pfR tables_1 y3.cls y3.name 65 = some ("RetimingEngine", 18,.int):=by decide +kernel
theorem m3_74 : M3 74 ls (.int v::.ref (b + 1)::st) (put (b + 1) pre s A post) Q = M3 77 ls st (put (b + 1) pre (ou s 0 v) A post) Q:=w_put (show decode kb3 74 = .ok (.putfield 65,3) from by decide +kernel) pf3_65 put_o (Nat.succ_le_succ (Nat.zero_le _)) (by show 18 < 26; omega) rfl put_s0
theorem m3_77 : M3 77 [.val (.ref r),l1,l2,l3] st H Q = M3 78 [.val (.ref r),l1,l2,l3] (.ref r::st) H Q:=w_x (show decode kb3 77 = .ok (.aload_n 0,1) from by decide +kernel) rfl
theorem m3_78 : M3 78 ls st H Q = M3 79 ls (.int 0::st) H Q:=w_con (show decode kb3 78 = .ok (.iconst 0,1) from by decide +kernel) rfl (by decide)
theorem pf3_78 : pfR tables_1 y3.cls y3.name 78 = some ("RetimingEngine", 22,.boolean):=by decide +kernel
theorem m3_79 : M3 79 ls (.int v::.ref (b + 1)::st) (put (b + 1) pre s A post) Q = M3 82 ls st (put (b + 1) pre (ou s 4 (nar .boolean v)) A post) Q:=w_put (show decode kb3 79 = .ok (.putfield 78,3) from by decide +kernel) pf3_78 put_o (Nat.succ_le_succ (Nat.zero_le _)) (by show 22 < 26; omega) rfl put_s4
theorem m3_82 : M3 82 [.val (.ref r),l1,l2,l3] st H Q = M3 83 [.val (.ref r),l1,l2,l3] (.ref r::st) H Q:=w_x (show decode kb3 82 = .ok (.aload_n 0,1) from by decide +kernel) rfl
theorem m3_83 : M3 83 ls st H Q = M3 84 ls (.int 0::st) H Q:=w_con (show decode kb3 83 = .ok (.iconst 0,1) from by decide +kernel) rfl (by decide)
theorem pf3_75 : pfR tables_1 y3.cls y3.name 75 = some ("RetimingEngine", 21,.int):=by decide +kernel
theorem m3_84 : M3 84 ls (.int v::.ref (b + 1)::st) (put (b + 1) pre s A post) Q = M3 87 ls st (put (b + 1) pre (ou s 3 v) A post) Q:=w_put (show decode kb3 84 = .ok (.putfield 75,3) from by decide +kernel) pf3_75 put_o (Nat.succ_le_succ (Nat.zero_le _)) (by show 21 < 26; omega) rfl put_s3
theorem m3_87 : M3 87 [.val (.ref r),l1,l2,l3] st H Q = M3 88 [.val (.ref r),l1,l2,l3] (.ref r::st) H Q:=w_x (show decode kb3 87 = .ok (.aload_n 0,1) from by decide +kernel) rfl
theorem m3_88 : M3 88 ls (.ref (b + 1)::st) (put (b + 1) pre s A post) Q = M3 91 ls (.int (s 0)::st) (put (b + 1) pre s A post) Q:=w_get (show decode kb3 88 = .ok (.getfield 65,3) from by decide +kernel) gf_65 put_o rfl
theorem m3_91 : M3 91 ls st H Q = M3 92 ls (.int 1::st) H Q:=w_con (show decode kb3 91 = .ok (.iconst 1,1) from by decide +kernel) rfl (by decide)
theorem m3_92 : M3 92 ls (.int y::.int x::st) H Q = M3 93 ls (.int (x - y)::st) H Q:=w_x (show decode kb3 92 = .ok (.isub,1) from by decide +kernel) rfl
theorem m3_93 : M3 93 ls (.int z::st) H Q = Q (some (.int z)) H:=w_iret (show decode kb3 93 = .ok (.ireturn,1) from by decide +kernel) rfl
theorem m4_0 : M4 0 [.val (.ref r)] st H Q = M4 1 [.val (.ref r)] (.ref r::st) H Q:=w_x (show decode kb4 0 = .ok (.aload_n 0,1) from by decide +kernel) rfl
theorem m4_1 : M4 1 ls (.ref (b + 1)::st) (put (b + 1) pre s A post) Q = M4 4 ls (.int (s 4)::st) (put (b + 1) pre s A post) Q:=w_get (show decode kb4 1 = .ok (.getfield 78,3) from by decide +kernel) gf_78 put_o rfl
theorem m4_4 : M4 4 ls (.int x::st) H Q = if x = 0 then M4 12 ls st H Q else M4 7 ls st H Q:=w_if (show decode kb4 4 = .ok (.ifCond .eq 8,3) from by decide +kernel) (z_eq x) rfl
theorem m4_7 : M4 7 [.val (.ref r)] st H Q = M4 8 [.val (.ref r)] (.ref r::st) H Q:=w_x (show decode kb4 7 = .ok (.aload_n 0,1) from by decide +kernel) rfl
theorem m4_8 : M4 8 ls (.ref (b + 1)::st) (put (b + 1) pre s A post) Q = M4 11 ls (.int (s 5)::st) (put (b + 1) pre s A post) Q:=w_get (show decode kb4 8 = .ok (.getfield 82,3) from by decide +kernel) gf_82 put_o rfl
theorem m4_11 : M4 11 ls (.int z::st) H Q = Q (some (.int z)) H:=w_iret (show decode kb4 11 = .ok (.ireturn,1) from by decide +kernel) rfl
theorem m4_12 : M4 12 [.val (.ref r)] st H Q = M4 13 [.val (.ref r)] (.ref r::st) H Q:=w_x (show decode kb4 12 = .ok (.aload_n 0,1) from by decide +kernel) rfl
theorem m4_13 : M4 13 ls (.ref (b + 1)::st) (put (b + 1) pre s A post) Q = M4 16 ls (.int (s 0)::st) (put (b + 1) pre s A post) Q:=w_get (show decode kb4 13 = .ok (.getfield 65,3) from by decide +kernel) gf_65 put_o rfl
theorem m4_16 : M4 16 ls (.int x::st) H Q = if x = 0 then M4 19 ls st H Q else M4 22 ls st H Q:=w_ifN (show decode kb4 16 = .ok (.ifCond .ne 6,3) from by decide +kernel) (z_ne x) rfl
theorem m4_19 : M4 19 ls st H Q = M4 21 ls (.int (-4)::st) H Q:=w_con (show decode kb4 19 = .ok (.bipush (-4),2) from by decide +kernel) rfl (by decide)
theorem m4_21 : M4 21 ls (.int z::st) H Q = Q (some (.int z)) H:=w_iret (show decode kb4 21 = .ok (.ireturn,1) from by decide +kernel) rfl
theorem m4_22 : M4 22 [.val (.ref r)] st H Q = M4 23 [.val (.ref r)] (.ref r::st) H Q:=w_x (show decode kb4 22 = .ok (.aload_n 0,1) from by decide +kernel) rfl
theorem m4_23 : M4 23 ls st H Q = M4 24 ls (.int 0::st) H Q:=w_con (show decode kb4 23 = .ok (.iconst 0,1) from by decide +kernel) rfl (by decide)
theorem cr4_85 : vR tables_1 dn y4 85 = some (true,y5,prog_1_method_20_code,7,(some .boolean),1,17):=pR_of (cR_of (by decide +kernel) rc_5 dn_5 dn_4 (sig:=⟨[.int],some .boolean⟩) (by decide +kernel) (by decide +kernel) rfl rfl) (by decide +kernel) (by decide +kernel)
theorem m4_24 (a0 : Int32) : M4 24 ls [.int a0,.ref (b + 1)] (put (b + 1) pre s A post) Q = M5 0 [.val (.ref (b + 1)),.val (.int a0),.unset,.unset,.unset,.unset,.unset] [] (put (b + 1) pre s A post) (fun v H1 => M4 27 ls (v.toList ++ []) H1 Q):=w_virt (as:=[.int a0]) (rest:=[]) (a:=(b + 1)) (show decode kb4 24 = .ok (.invokevirtual 85,3) from by decide +kernel) cr4_85 put_o rfl rfl (Nat.le_of_ble_eq_true rfl) (by show 2≤7; omega) rfl
theorem m4_27 : M4 27 ls (.int x::st) H Q = if x = 0 then M4 30 ls st H Q else M4 33 ls st H Q:=w_ifN (show decode kb4 27 = .ok (.ifCond .ne 6,3) from by decide +kernel) (z_ne x) rfl
theorem m4_30 : M4 30 ls st H Q = M4 32 ls (.int (-5)::st) H Q:=w_con (show decode kb4 30 = .ok (.bipush (-5),2) from by decide +kernel) rfl (by decide)
theorem m4_32 : M4 32 ls (.int z::st) H Q = Q (some (.int z)) H:=w_iret (show decode kb4 32 = .ok (.ireturn,1) from by decide +kernel) rfl
theorem m4_33 : M4 33 [.val (.ref r)] st H Q = M4 34 [.val (.ref r)] (.ref r::st) H Q:=w_x (show decode kb4 33 = .ok (.aload_n 0,1) from by decide +kernel) rfl
theorem m4_34 : M4 34 [.val (.ref r)] st H Q = M4 35 [.val (.ref r)] (.ref r::st) H Q:=w_x (show decode kb4 34 = .ok (.aload_n 0,1) from by decide +kernel) rfl
theorem m4_35 : M4 35 ls st H Q = M4 36 ls (.int 0::st) H Q:=w_con (show decode kb4 35 = .ok (.iconst 0,1) from by decide +kernel) rfl (by decide)
theorem cr4_89 : vR tables_1 dn y4 89 = some (true,y6,prog_1_method_21_code,8,(some .int),1,16):=pR_of (cR_of (by decide +kernel) rc_6 dn_6 dn_4 (sig:=⟨[.int],some .int⟩) (by decide +kernel) (by decide +kernel) rfl rfl) (by decide +kernel) (by decide +kernel)
theorem m4_36 (a0 : Int32) (u0 : Nat) : M4 36 ls [.int a0,.ref (b + 1),.ref u0] (put (b + 1) pre s A post) Q = M6 0 [.val (.ref (b + 1)),.val (.int a0),.unset,.unset,.unset,.unset,.unset,.unset] [] (put (b + 1) pre s A post) (fun v H1 => M4 39 ls (v.toList ++ [.ref u0]) H1 Q):=w_virt (as:=[.int a0]) (rest:=[.ref u0]) (a:=(b + 1)) (show decode kb4 36 = .ok (.invokevirtual 89,3) from by decide +kernel) cr4_89 put_o rfl rfl (Nat.le_of_ble_eq_true rfl) (by show 2≤8; omega) rfl
theorem pf4_93 : pfR tables_1 y4.cls y4.name 93 = some ("RetimingEngine", 23,.int):=by decide +kernel
theorem m4_39 : M4 39 ls (.int v::.ref (b + 1)::st) (put (b + 1) pre s A post) Q = M4 42 ls st (put (b + 1) pre (ou s 6 v) A post) Q:=w_put (show decode kb4 39 = .ok (.putfield 93,3) from by decide +kernel) pf4_93 put_o (Nat.succ_le_succ (Nat.zero_le _)) (by show 23 < 26; omega) rfl put_s6
theorem m4_42 : M4 42 [.val (.ref r)] st H Q = M4 43 [.val (.ref r)] (.ref r::st) H Q:=w_x (show decode kb4 42 = .ok (.aload_n 0,1) from by decide +kernel) rfl
theorem cr4_96 : vR tables_1 dn y4 96 = some (true,y7,prog_1_method_23_code,3,none,0,3):=pR_of (cR_of (by decide +kernel) rc_7 dn_7 dn_4 (sig:=⟨[],none⟩) (by decide +kernel) (by decide +kernel) rfl rfl) (by decide +kernel) (by decide +kernel)
theorem m4_43 : M4 43 ls [.ref (b + 1)] (put (b + 1) pre s A post) Q = M7 0 [.val (.ref (b + 1)),.unset,.unset] [] (put (b + 1) pre s A post) (fun v H1 => M4 46 ls (v.toList ++ []) H1 Q):=w_virt (as:=[]) (rest:=[]) (a:=(b + 1)) (show decode kb4 43 = .ok (.invokevirtual 96,3) from by decide +kernel) cr4_96 put_o rfl rfl (Nat.le_of_ble_eq_true rfl) (by show 1≤3; omega) rfl
theorem m4_46 : M4 46 [.val (.ref r)] st H Q = M4 47 [.val (.ref r)] (.ref r::st) H Q:=w_x (show decode kb4 46 = .ok (.aload_n 0,1) from by decide +kernel) rfl
theorem m4_47 : M4 47 [.val (.ref r)] st H Q = M4 48 [.val (.ref r)] (.ref r::st) H Q:=w_x (show decode kb4 47 = .ok (.aload_n 0,1) from by decide +kernel) rfl
theorem cr4_99 : vR tables_1 dn y4 99 = some (true,y10,prog_1_method_25_code,5,(some .int),0,1):=pR_of (cR_of (by decide +kernel) rc_10 dn_10 dn_4 (sig:=⟨[],some .int⟩) (by decide +kernel) (by decide +kernel) rfl rfl) (by decide +kernel) (by decide +kernel)
theorem m4_48 (u0 : Nat) : M4 48 ls [.ref (b + 1),.ref u0] (put (b + 1) pre s A post) Q = M10 0 [.val (.ref (b + 1)),.unset,.unset,.unset,.unset] [] (put (b + 1) pre s A post) (fun v H1 => M4 51 ls (v.toList ++ [.ref u0]) H1 Q):=w_virt (as:=[]) (rest:=[.ref u0]) (a:=(b + 1)) (show decode kb4 48 = .ok (.invokevirtual 99,3) from by decide +kernel) cr4_99 put_o rfl rfl (Nat.le_of_ble_eq_true rfl) (by show 1≤5; omega) rfl
theorem pf4_82 : pfR tables_1 y4.cls y4.name 82 = some ("RetimingEngine", 24,.int):=by decide +kernel
theorem m4_51 : M4 51 ls (.int v::.ref (b + 1)::st) (put (b + 1) pre s A post) Q = M4 54 ls st (put (b + 1) pre (ou s 5 v) A post) Q:=w_put (show decode kb4 51 = .ok (.putfield 82,3) from by decide +kernel) pf4_82 put_o (Nat.succ_le_succ (Nat.zero_le _)) (by show 24 < 26; omega) rfl put_s5
theorem m4_54 : M4 54 [.val (.ref r)] st H Q = M4 55 [.val (.ref r)] (.ref r::st) H Q:=w_x (show decode kb4 54 = .ok (.aload_n 0,1) from by decide +kernel) rfl
theorem m4_55 : M4 55 [.val (.ref r)] st H Q = M4 56 [.val (.ref r)] (.ref r::st) H Q:=w_x (show decode kb4 55 = .ok (.aload_n 0,1) from by decide +kernel) rfl
theorem m4_56 : M4 56 ls (.ref (b + 1)::st) (put (b + 1) pre s A post) Q = M4 59 ls (.int (s 5)::st) (put (b + 1) pre s A post) Q:=w_get (show decode kb4 56 = .ok (.getfield 82,3) from by decide +kernel) gf_82 put_o rfl
theorem cr4_103 : vR tables_1 dn y4 103 = some (true,y11,prog_1_method_26_code,3,(some .boolean),1,17):=pR_of (cR_of (by decide +kernel) rc_11 dn_11 dn_4 (sig:=⟨[.int],some .boolean⟩) (by decide +kernel) (by decide +kernel) rfl rfl) (by decide +kernel) (by decide +kernel)
theorem m4_59 (a0 : Int32) : M4 59 ls [.int a0,.ref (b + 1)] (put (b + 1) pre s A post) Q = M11 0 [.val (.ref (b + 1)),.val (.int a0),.unset] [] (put (b + 1) pre s A post) (fun v H1 => M4 62 ls (v.toList ++ []) H1 Q):=w_virt (as:=[.int a0]) (rest:=[]) (a:=(b + 1)) (show decode kb4 59 = .ok (.invokevirtual 103,3) from by decide +kernel) cr4_103 put_o rfl rfl (Nat.le_of_ble_eq_true rfl) (by show 2≤3; omega) rfl
theorem m4_62 : M4 62 ls ((.int v)::st) H Q = M4 63 ls st H Q:=w_x (show decode kb4 62 = .ok (.pop,1) from by decide +kernel) rfl
theorem m4_63 : M4 63 [.val (.ref r)] st H Q = M4 64 [.val (.ref r)] (.ref r::st) H Q:=w_x (show decode kb4 63 = .ok (.aload_n 0,1) from by decide +kernel) rfl
theorem cr4_106 : vR tables_1 dn y4 106 = some (true,y13,prog_1_method_28_code,2,none,0,36):=pR_of (cR_of (by decide +kernel) rc_13 dn_13 dn_4 (sig:=⟨[],none⟩) (by decide +kernel) (by decide +kernel) rfl rfl) (by decide +kernel) (by decide +kernel)
theorem m4_64 : M4 64 ls [.ref (b + 1)] (put (b + 1) pre s A post) Q = M13 0 [.val (.ref (b + 1)),.unset] [] (put (b + 1) pre s A post) (fun v H1 => M4 67 ls (v.toList ++ []) H1 Q):=w_virt (as:=[]) (rest:=[]) (a:=(b + 1)) (show decode kb4 64 = .ok (.invokevirtual 106,3) from by decide +kernel) cr4_106 put_o rfl rfl (Nat.le_of_ble_eq_true rfl) (by show 1≤2; omega) rfl
theorem m4_67 : M4 67 [.val (.ref r)] st H Q = M4 68 [.val (.ref r)] (.ref r::st) H Q:=w_x (show decode kb4 67 = .ok (.aload_n 0,1) from by decide +kernel) rfl
theorem m4_68 : M4 68 ls st H Q = M4 69 ls (.int 1::st) H Q:=w_con (show decode kb4 68 = .ok (.iconst 1,1) from by decide +kernel) rfl (by decide)
theorem m4_69 (a0 : Int32) : M4 69 ls [.int a0,.ref (b + 1)] (put (b + 1) pre s A post) Q = M5 0 [.val (.ref (b + 1)),.val (.int a0),.unset,.unset,.unset,.unset,.unset] [] (put (b + 1) pre s A post) (fun v H1 => M4 72 ls (v.toList ++ []) H1 Q):=w_virt (as:=[.int a0]) (rest:=[]) (a:=(b + 1)) (show decode kb4 69 = .ok (.invokevirtual 85,3) from by decide +kernel) cr4_85 put_o rfl rfl (Nat.le_of_ble_eq_true rfl) (by show 2≤7; omega) rfl
theorem m4_72 : M4 72 ls ((.int v)::st) H Q = M4 73 ls st H Q:=w_x (show decode kb4 72 = .ok (.pop,1) from by decide +kernel) rfl
theorem m4_73 : M4 73 [.val (.ref r)] st H Q = M4 74 [.val (.ref r)] (.ref r::st) H Q:=w_x (show decode kb4 73 = .ok (.aload_n 0,1) from by decide +kernel) rfl
theorem m4_74 : M4 74 [.val (.ref r)] st H Q = M4 75 [.val (.ref r)] (.ref r::st) H Q:=w_x (show decode kb4 74 = .ok (.aload_n 0,1) from by decide +kernel) rfl
theorem m4_75 : M4 75 ls st H Q = M4 76 ls (.int 1::st) H Q:=w_con (show decode kb4 75 = .ok (.iconst 1,1) from by decide +kernel) rfl (by decide)
theorem m4_76 (a0 : Int32) (u0 : Nat) : M4 76 ls [.int a0,.ref (b + 1),.ref u0] (put (b + 1) pre s A post) Q = M6 0 [.val (.ref (b + 1)),.val (.int a0),.unset,.unset,.unset,.unset,.unset,.unset] [] (put (b + 1) pre s A post) (fun v H1 => M4 79 ls (v.toList ++ [.ref u0]) H1 Q):=w_virt (as:=[.int a0]) (rest:=[.ref u0]) (a:=(b + 1)) (show decode kb4 76 = .ok (.invokevirtual 89,3) from by decide +kernel) cr4_89 put_o rfl rfl (Nat.le_of_ble_eq_true rfl) (by show 2≤8; omega) rfl
theorem pf4_109 : pfR tables_1 y4.cls y4.name 109 = some ("RetimingEngine", 25,.int):=by decide +kernel
theorem m4_79 : M4 79 ls (.int v::.ref (b + 1)::st) (put (b + 1) pre s A post) Q = M4 82 ls st (put (b + 1) pre (ou s 7 v) A post) Q:=w_put (show decode kb4 79 = .ok (.putfield 109,3) from by decide +kernel) pf4_109 put_o (Nat.succ_le_succ (Nat.zero_le _)) (by show 25 < 26; omega) rfl put_s7
theorem m4_82 : M4 82 [.val (.ref r)] st H Q = M4 83 [.val (.ref r)] (.ref r::st) H Q:=w_x (show decode kb4 82 = .ok (.aload_n 0,1) from by decide +kernel) rfl
theorem m4_83 : M4 83 ls st H Q = M4 84 ls (.int 1::st) H Q:=w_con (show decode kb4 83 = .ok (.iconst 1,1) from by decide +kernel) rfl (by decide)
theorem pf4_78 : pfR tables_1 y4.cls y4.name 78 = some ("RetimingEngine", 22,.boolean):=by decide +kernel
theorem m4_84 : M4 84 ls (.int v::.ref (b + 1)::st) (put (b + 1) pre s A post) Q = M4 87 ls st (put (b + 1) pre (ou s 4 (nar .boolean v)) A post) Q:=w_put (show decode kb4 84 = .ok (.putfield 78,3) from by decide +kernel) pf4_78 put_o (Nat.succ_le_succ (Nat.zero_le _)) (by show 22 < 26; omega) rfl put_s4
theorem m4_87 : M4 87 [.val (.ref r)] st H Q = M4 88 [.val (.ref r)] (.ref r::st) H Q:=w_x (show decode kb4 87 = .ok (.aload_n 0,1) from by decide +kernel) rfl
theorem m4_88 : M4 88 ls (.ref (b + 1)::st) (put (b + 1) pre s A post) Q = M4 91 ls (.int (s 5)::st) (put (b + 1) pre s A post) Q:=w_get (show decode kb4 88 = .ok (.getfield 82,3) from by decide +kernel) gf_82 put_o rfl
theorem m4_91 : M4 91 ls (.int z::st) H Q = Q (some (.int z)) H:=w_iret (show decode kb4 91 = .ok (.ireturn,1) from by decide +kernel) rfl
theorem m5_0 : M5 0 ls st H Q = M5 1 ls (.int 0::st) H Q:=w_con (show decode kb5 0 = .ok (.iconst 0,1) from by decide +kernel) rfl (by decide)
theorem m5_1u : M5 1 [l0,l1,.unset,l3,l4,l5,l6] ((.int v)::st) H Q = M5 2 [l0,l1,.val (.int v),l3,l4,l5,l6] st H Q:=w_st (i:=2) (p:=isI) (show decode kb5 1 = .ok (.istore_n 2,1) from by decide +kernel) rfl rfl rfl rfl rfl rfl
theorem m5_2 : M5 2 [l0,l1,.val (.int v),l3,l4,l5,l6] st H Q = M5 3 [l0,l1,.val (.int v),l3,l4,l5,l6] (.int v::st) H Q:=w_x (show decode kb5 2 = .ok (.iload_n 2,1) from by decide +kernel) rfl
theorem m5_3 : M5 3 [.val (.ref r),l1,l2,l3,l4,l5,l6] st H Q = M5 4 [.val (.ref r),l1,l2,l3,l4,l5,l6] (.ref r::st) H Q:=w_x (show decode kb5 3 = .ok (.aload_n 0,1) from by decide +kernel) rfl
theorem m5_4 : M5 4 ls (.ref (b + 1)::st) (put (b + 1) pre s A post) Q = M5 7 ls (.int (s 0)::st) (put (b + 1) pre s A post) Q:=w_get (show decode kb5 4 = .ok (.getfield 65,3) from by decide +kernel) gf_65 put_o rfl
theorem m5_7 : M5 7 ls (.int y::.int x::st) H Q = if x < y then M5 10 ls st H Q else M5 23 ls st H Q:=w_icmpN (show decode kb5 7 = .ok (.if_icmp .ge 16,3) from by decide +kernel) (i_ge x y) rfl
theorem m5_10 : M5 10 [.val (.ref r),l1,l2,l3,l4,l5,l6] st H Q = M5 11 [.val (.ref r),l1,l2,l3,l4,l5,l6] (.ref r::st) H Q:=w_x (show decode kb5 10 = .ok (.aload_n 0,1) from by decide +kernel) rfl
theorem m5_11 : M5 11 ls (.ref (b + 1)::st) (put (b + 1) pre s A post) Q = M5 14 ls (.ref ((b + 1) + 16)::st) (put (b + 1) pre s A post) Q:=w_get (show decode kb5 11 = .ok (.getfield 56,3) from by decide +kernel) gf_56 put_o rfl
theorem m5_14 : M5 14 [l0,l1,.val (.int v),l3,l4,l5,l6] st H Q = M5 15 [l0,l1,.val (.int v),l3,l4,l5,l6] (.int v::st) H Q:=w_x (show decode kb5 14 = .ok (.iload_n 2,1) from by decide +kernel) rfl
theorem m5_15 : M5 15 ls st H Q = M5 16 ls (.int 0::st) H Q:=w_con (show decode kb5 15 = .ok (.iconst 0,1) from by decide +kernel) rfl (by decide)
theorem m5_16  : M5 16 ls (.int v::.int j::.ref ((b + 1) + 16)::st) (put (b + 1) pre s A post) Q = (inB j (A 15)∧M5 17 ls st (put (b + 1) pre s (ou A 15 (setA (A 15) j v)) post) Q):=w_ist (show decode kb5 16 = .ok (.iastore,1) from by decide +kernel) rfl put_a15 (by omega) rfl put_w15
theorem m5_17 : M5 17 [l0,l1,.val (.int v),l3,l4,l5,l6] st H Q = M5 20 [l0,l1,.val (.int (v + 1)),l3,l4,l5,l6] st H Q:=w_iinc (show decode kb5 17 = .ok (.iinc 2 1,3) from by decide +kernel) rfl (by decide) rfl
theorem m5_20 : M5 20 ls st H Q = M5 2 ls st H Q:=w_x (show decode kb5 20 = .ok (.goto (-18),3) from by decide +kernel) rfl
theorem m5_23 : M5 23 ls st H Q = M5 24 ls (.int 0::st) H Q:=w_con (show decode kb5 23 = .ok (.iconst 0,1) from by decide +kernel) rfl (by decide)
theorem m5_24i : M5 24 [l0,l1,.val (.int z),l3,l4,l5,l6] ((.int v)::st) H Q = M5 25 [l0,l1,.val (.int v),l3,l4,l5,l6] st H Q:=w_st (i:=2) (p:=isI) (show decode kb5 24 = .ok (.istore_n 2,1) from by decide +kernel) rfl rfl rfl rfl rfl rfl
theorem m5_25 : M5 25 [l0,l1,.val (.int v),l3,l4,l5,l6] st H Q = M5 26 [l0,l1,.val (.int v),l3,l4,l5,l6] (.int v::st) H Q:=w_x (show decode kb5 25 = .ok (.iload_n 2,1) from by decide +kernel) rfl
theorem m5_26 : M5 26 [.val (.ref r),l1,l2,l3,l4,l5,l6] st H Q = M5 27 [.val (.ref r),l1,l2,l3,l4,l5,l6] (.ref r::st) H Q:=w_x (show decode kb5 26 = .ok (.aload_n 0,1) from by decide +kernel) rfl
theorem m5_27 : M5 27 ls (.ref (b + 1)::st) (put (b + 1) pre s A post) Q = M5 30 ls (.int (s 1)::st) (put (b + 1) pre s A post) Q:=w_get (show decode kb5 27 = .ok (.getfield 69,3) from by decide +kernel) gf_69 put_o rfl
theorem m5_30 : M5 30 ls (.int y::.int x::st) H Q = if x < y then M5 33 ls st H Q else M5 63 ls st H Q:=w_icmpN (show decode kb5 30 = .ok (.if_icmp .ge 33,3) from by decide +kernel) (i_ge x y) rfl
theorem m5_33 : M5 33 [.val (.ref r),l1,l2,l3,l4,l5,l6] st H Q = M5 34 [.val (.ref r),l1,l2,l3,l4,l5,l6] (.ref r::st) H Q:=w_x (show decode kb5 33 = .ok (.aload_n 0,1) from by decide +kernel) rfl
theorem m5_34 : M5 34 [l0,l1,.val (.int v),l3,l4,l5,l6] st H Q = M5 35 [l0,l1,.val (.int v),l3,l4,l5,l6] (.int v::st) H Q:=w_x (show decode kb5 34 = .ok (.iload_n 2,1) from by decide +kernel) rfl
theorem m5_35 : M5 35 [l0,.val (.int v),l2,l3,l4,l5,l6] st H Q = M5 36 [l0,.val (.int v),l2,l3,l4,l5,l6] (.int v::st) H Q:=w_x (show decode kb5 35 = .ok (.iload_n 1,1) from by decide +kernel) rfl
theorem cr5_121 : vR tables_1 dn y5 121 = some (true,y14,prog_1_method_19_code,3,(some .int),2,0):=pR_of (cR_of (by decide +kernel) rc_14 dn_14 dn_5 (sig:=⟨[.int,.int],some .int⟩) (by decide +kernel) (by decide +kernel) rfl rfl) (by decide +kernel) (by decide +kernel)
theorem m5_36 (a0 : Int32) (a1 : Int32) : M5 36 ls [.int a1,.int a0,.ref (b + 1)] (put (b + 1) pre s A post) Q = M14 0 [.val (.ref (b + 1)),.val (.int a0),.val (.int a1)] [] (put (b + 1) pre s A post) (fun v H1 => M5 39 ls (v.toList ++ []) H1 Q):=w_virt (as:=[.int a1,.int a0]) (rest:=[]) (a:=(b + 1)) (show decode kb5 36 = .ok (.invokevirtual 121,3) from by decide +kernel) cr5_121 put_o rfl rfl (Nat.le_of_ble_eq_true rfl) (by show 3≤3; omega) rfl
theorem m5_39 : M5 39 ls (.int x::st) H Q = if x = 0 then M5 42 ls st H Q else M5 57 ls st H Q:=w_ifN (show decode kb5 39 = .ok (.ifCond .ne 18,3) from by decide +kernel) (z_ne x) rfl
theorem m5_42 : M5 42 [.val (.ref r),l1,l2,l3,l4,l5,l6] st H Q = M5 43 [.val (.ref r),l1,l2,l3,l4,l5,l6] (.ref r::st) H Q:=w_x (show decode kb5 42 = .ok (.aload_n 0,1) from by decide +kernel) rfl
theorem m5_43 : M5 43 ls (.ref (b + 1)::st) (put (b + 1) pre s A post) Q = M5 46 ls (.ref ((b + 1) + 16)::st) (put (b + 1) pre s A post) Q:=w_get (show decode kb5 43 = .ok (.getfield 56,3) from by decide +kernel) gf_56 put_o rfl
theorem m5_46 : M5 46 [.val (.ref r),l1,l2,l3,l4,l5,l6] st H Q = M5 47 [.val (.ref r),l1,l2,l3,l4,l5,l6] (.ref r::st) H Q:=w_x (show decode kb5 46 = .ok (.aload_n 0,1) from by decide +kernel) rfl
theorem m5_47 : M5 47 ls (.ref (b + 1)::st) (put (b + 1) pre s A post) Q = M5 50 ls (.ref ((b + 1) + 5)::st) (put (b + 1) pre s A post) Q:=w_get (show decode kb5 47 = .ok (.getfield 22,3) from by decide +kernel) gf_22 put_o rfl
theorem m5_50 : M5 50 [l0,l1,.val (.int v),l3,l4,l5,l6] st H Q = M5 51 [l0,l1,.val (.int v),l3,l4,l5,l6] (.int v::st) H Q:=w_x (show decode kb5 50 = .ok (.iload_n 2,1) from by decide +kernel) rfl
theorem m5_51  : M5 51 ls (.int j::.ref ((b + 1) + 5)::st) (put (b + 1) pre s A post) Q = (inB j (A 4)∧M5 52 ls (.int (getA (A 4) j)::st) (put (b + 1) pre s A post) Q):=w_ild (show decode kb5 51 = .ok (.iaload,1) from by decide +kernel) rfl put_a4
theorem m5_52 : M5 52 ls (.int x::.ref q::st) H Q = M5 53 ls (.int x::.ref q::.int x::.ref q::st) H Q:=w_x (show decode kb5 52 = .ok (.dup2,1) from by decide +kernel) rfl
theorem m5_53  : M5 53 ls (.int j::.ref ((b + 1) + 16)::st) (put (b + 1) pre s A post) Q = (inB j (A 15)∧M5 54 ls (.int (getA (A 15) j)::st) (put (b + 1) pre s A post) Q):=w_ild (show decode kb5 53 = .ok (.iaload,1) from by decide +kernel) rfl put_a15
theorem m5_54 : M5 54 ls st H Q = M5 55 ls (.int 1::st) H Q:=w_con (show decode kb5 54 = .ok (.iconst 1,1) from by decide +kernel) rfl (by decide)
theorem m5_55 : M5 55 ls (.int y::.int x::st) H Q = M5 56 ls (.int (x + y)::st) H Q:=w_x (show decode kb5 55 = .ok (.iadd,1) from by decide +kernel) rfl
theorem m5_56  : M5 56 ls (.int v::.int j::.ref ((b + 1) + 16)::st) (put (b + 1) pre s A post) Q = (inB j (A 15)∧M5 57 ls st (put (b + 1) pre s (ou A 15 (setA (A 15) j v)) post) Q):=w_ist (show decode kb5 56 = .ok (.iastore,1) from by decide +kernel) rfl put_a15 (by omega) rfl put_w15
theorem m5_57 : M5 57 [l0,l1,.val (.int v),l3,l4,l5,l6] st H Q = M5 60 [l0,l1,.val (.int (v + 1)),l3,l4,l5,l6] st H Q:=w_iinc (show decode kb5 57 = .ok (.iinc 2 1,3) from by decide +kernel) rfl (by decide) rfl
theorem m5_60 : M5 60 ls st H Q = M5 25 ls st H Q:=w_x (show decode kb5 60 = .ok (.goto (-35),3) from by decide +kernel) rfl
theorem m5_63 : M5 63 ls st H Q = M5 64 ls (.int 0::st) H Q:=w_con (show decode kb5 63 = .ok (.iconst 0,1) from by decide +kernel) rfl (by decide)
theorem m5_64i : M5 64 [l0,l1,.val (.int z),l3,l4,l5,l6] ((.int v)::st) H Q = M5 65 [l0,l1,.val (.int v),l3,l4,l5,l6] st H Q:=w_st (i:=2) (p:=isI) (show decode kb5 64 = .ok (.istore_n 2,1) from by decide +kernel) rfl rfl rfl rfl rfl rfl
theorem m5_65 : M5 65 ls st H Q = M5 66 ls (.int 0::st) H Q:=w_con (show decode kb5 65 = .ok (.iconst 0,1) from by decide +kernel) rfl (by decide)
theorem m5_66u : M5 66 [l0,l1,l2,.unset,l4,l5,l6] ((.int v)::st) H Q = M5 67 [l0,l1,l2,.val (.int v),l4,l5,l6] st H Q:=w_st (i:=3) (p:=isI) (show decode kb5 66 = .ok (.istore_n 3,1) from by decide +kernel) rfl rfl rfl rfl rfl rfl
theorem m5_67 : M5 67 [l0,l1,l2,.val (.int v),l4,l5,l6] st H Q = M5 68 [l0,l1,l2,.val (.int v),l4,l5,l6] (.int v::st) H Q:=w_x (show decode kb5 67 = .ok (.iload_n 3,1) from by decide +kernel) rfl
theorem m5_68 : M5 68 [.val (.ref r),l1,l2,l3,l4,l5,l6] st H Q = M5 69 [.val (.ref r),l1,l2,l3,l4,l5,l6] (.ref r::st) H Q:=w_x (show decode kb5 68 = .ok (.aload_n 0,1) from by decide +kernel) rfl
theorem m5_69 : M5 69 ls (.ref (b + 1)::st) (put (b + 1) pre s A post) Q = M5 72 ls (.int (s 0)::st) (put (b + 1) pre s A post) Q:=w_get (show decode kb5 69 = .ok (.getfield 65,3) from by decide +kernel) gf_65 put_o rfl
theorem m5_72 : M5 72 ls (.int y::.int x::st) H Q = if x < y then M5 75 ls st H Q else M5 106 ls st H Q:=w_icmpN (show decode kb5 72 = .ok (.if_icmp .ge 34,3) from by decide +kernel) (i_ge x y) rfl
theorem m5_75 : M5 75 [.val (.ref r),l1,l2,l3,l4,l5,l6] st H Q = M5 76 [.val (.ref r),l1,l2,l3,l4,l5,l6] (.ref r::st) H Q:=w_x (show decode kb5 75 = .ok (.aload_n 0,1) from by decide +kernel) rfl
theorem m5_76 : M5 76 ls (.ref (b + 1)::st) (put (b + 1) pre s A post) Q = M5 79 ls (.ref ((b + 1) + 16)::st) (put (b + 1) pre s A post) Q:=w_get (show decode kb5 76 = .ok (.getfield 56,3) from by decide +kernel) gf_56 put_o rfl
theorem m5_79 : M5 79 [l0,l1,l2,.val (.int v),l4,l5,l6] st H Q = M5 80 [l0,l1,l2,.val (.int v),l4,l5,l6] (.int v::st) H Q:=w_x (show decode kb5 79 = .ok (.iload_n 3,1) from by decide +kernel) rfl
theorem m5_80  : M5 80 ls (.int j::.ref ((b + 1) + 16)::st) (put (b + 1) pre s A post) Q = (inB j (A 15)∧M5 81 ls (.int (getA (A 15) j)::st) (put (b + 1) pre s A post) Q):=w_ild (show decode kb5 80 = .ok (.iaload,1) from by decide +kernel) rfl put_a15
theorem m5_81 : M5 81 ls (.int x::st) H Q = if x = 0 then M5 84 ls st H Q else M5 100 ls st H Q:=w_ifN (show decode kb5 81 = .ok (.ifCond .ne 19,3) from by decide +kernel) (z_ne x) rfl
theorem m5_84 : M5 84 [l0,l1,.val (.int v),l3,l4,l5,l6] st H Q = M5 85 [l0,l1,.val (.int v),l3,l4,l5,l6] (.int v::st) H Q:=w_x (show decode kb5 84 = .ok (.iload_n 2,1) from by decide +kernel) rfl
theorem m5_85 : M5 85 ls st H Q = M5 87 ls (.int 32::st) H Q:=w_con (show decode kb5 85 = .ok (.bipush 32,2) from by decide +kernel) rfl (by decide)
theorem m5_87 : M5 87 ls (.int y::.int x::st) H Q = if x < y then M5 90 ls st H Q else M5 100 ls st H Q:=w_icmpN (show decode kb5 87 = .ok (.if_icmp .ge 13,3) from by decide +kernel) (i_ge x y) rfl
theorem m5_90 : M5 90 [.val (.ref r),l1,l2,l3,l4,l5,l6] st H Q = M5 91 [.val (.ref r),l1,l2,l3,l4,l5,l6] (.ref r::st) H Q:=w_x (show decode kb5 90 = .ok (.aload_n 0,1) from by decide +kernel) rfl
theorem m5_91 : M5 91 ls (.ref (b + 1)::st) (put (b + 1) pre s A post) Q = M5 94 ls (.ref ((b + 1) + 15)::st) (put (b + 1) pre s A post) Q:=w_get (show decode kb5 91 = .ok (.getfield 53,3) from by decide +kernel) gf_53 put_o rfl
theorem m5_94 : M5 94 [l0,l1,.val (.int v),l3,l4,l5,l6] st H Q = M5 95 [l0,l1,.val (.int v),l3,l4,l5,l6] (.int v::st) H Q:=w_x (show decode kb5 94 = .ok (.iload_n 2,1) from by decide +kernel) rfl
theorem m5_95 : M5 95 [l0,l1,l2,.val (.int v),l4,l5,l6] st H Q = M5 96 [l0,l1,l2,.val (.int v),l4,l5,l6] (.int v::st) H Q:=w_x (show decode kb5 95 = .ok (.iload_n 3,1) from by decide +kernel) rfl
theorem m5_96  : M5 96 ls (.int v::.int j::.ref ((b + 1) + 15)::st) (put (b + 1) pre s A post) Q = (inB j (A 14)∧M5 97 ls st (put (b + 1) pre s (ou A 14 (setA (A 14) j v)) post) Q):=w_ist (show decode kb5 96 = .ok (.iastore,1) from by decide +kernel) rfl put_a14 (by omega) rfl put_w14
theorem m5_97 : M5 97 [l0,l1,.val (.int v),l3,l4,l5,l6] st H Q = M5 100 [l0,l1,.val (.int (v + 1)),l3,l4,l5,l6] st H Q:=w_iinc (show decode kb5 97 = .ok (.iinc 2 1,3) from by decide +kernel) rfl (by decide) rfl
theorem m5_100 : M5 100 [l0,l1,l2,.val (.int v),l4,l5,l6] st H Q = M5 103 [l0,l1,l2,.val (.int (v + 1)),l4,l5,l6] st H Q:=w_iinc (show decode kb5 100 = .ok (.iinc 3 1,3) from by decide +kernel) rfl (by decide) rfl
theorem m5_103 : M5 103 ls st H Q = M5 67 ls st H Q:=w_x (show decode kb5 103 = .ok (.goto (-36),3) from by decide +kernel) rfl
theorem m5_106 : M5 106 ls st H Q = M5 107 ls (.int 0::st) H Q:=w_con (show decode kb5 106 = .ok (.iconst 0,1) from by decide +kernel) rfl (by decide)
theorem m5_107i : M5 107 [l0,l1,l2,.val (.int z),l4,l5,l6] ((.int v)::st) H Q = M5 108 [l0,l1,l2,.val (.int v),l4,l5,l6] st H Q:=w_st (i:=3) (p:=isI) (show decode kb5 107 = .ok (.istore_n 3,1) from by decide +kernel) rfl rfl rfl rfl rfl rfl
theorem m5_108 : M5 108 [l0,l1,l2,.val (.int v),l4,l5,l6] st H Q = M5 109 [l0,l1,l2,.val (.int v),l4,l5,l6] (.int v::st) H Q:=w_x (show decode kb5 108 = .ok (.iload_n 3,1) from by decide +kernel) rfl
theorem m5_109 : M5 109 [l0,l1,.val (.int v),l3,l4,l5,l6] st H Q = M5 110 [l0,l1,.val (.int v),l3,l4,l5,l6] (.int v::st) H Q:=w_x (show decode kb5 109 = .ok (.iload_n 2,1) from by decide +kernel) rfl
theorem m5_110 : M5 110 ls (.int y::.int x::st) H Q = if x < y then M5 113 ls st H Q else M5 220 ls st H Q:=w_icmpN (show decode kb5 110 = .ok (.if_icmp .ge 110,3) from by decide +kernel) (i_ge x y) rfl
theorem m5_113 : M5 113 [l0,l1,l2,.val (.int v),l4,l5,l6] st H Q = M5 114 [l0,l1,l2,.val (.int v),l4,l5,l6] (.int v::st) H Q:=w_x (show decode kb5 113 = .ok (.iload_n 3,1) from by decide +kernel) rfl
theorem m5_114 : M5 114 ls st H Q = M5 116 ls (.int 32::st) H Q:=w_con (show decode kb5 114 = .ok (.bipush 32,2) from by decide +kernel) rfl (by decide)
theorem m5_116 : M5 116 ls (.int y::.int x::st) H Q = if x < y then M5 119 ls st H Q else M5 220 ls st H Q:=w_icmpN (show decode kb5 116 = .ok (.if_icmp .ge 104,3) from by decide +kernel) (i_ge x y) rfl
theorem m5_119 : M5 119 [.val (.ref r),l1,l2,l3,l4,l5,l6] st H Q = M5 120 [.val (.ref r),l1,l2,l3,l4,l5,l6] (.ref r::st) H Q:=w_x (show decode kb5 119 = .ok (.aload_n 0,1) from by decide +kernel) rfl
theorem m5_120 : M5 120 ls (.ref (b + 1)::st) (put (b + 1) pre s A post) Q = M5 123 ls (.ref ((b + 1) + 15)::st) (put (b + 1) pre s A post) Q:=w_get (show decode kb5 120 = .ok (.getfield 53,3) from by decide +kernel) gf_53 put_o rfl
theorem m5_123 : M5 123 [l0,l1,l2,.val (.int v),l4,l5,l6] st H Q = M5 124 [l0,l1,l2,.val (.int v),l4,l5,l6] (.int v::st) H Q:=w_x (show decode kb5 123 = .ok (.iload_n 3,1) from by decide +kernel) rfl
theorem m5_124  : M5 124 ls (.int j::.ref ((b + 1) + 15)::st) (put (b + 1) pre s A post) Q = (inB j (A 14)∧M5 125 ls (.int (getA (A 14) j)::st) (put (b + 1) pre s A post) Q):=w_ild (show decode kb5 124 = .ok (.iaload,1) from by decide +kernel) rfl put_a14
theorem m5_125u : M5 125 [l0,l1,l2,l3,.unset,l5,l6] ((.int v)::st) H Q = M5 127 [l0,l1,l2,l3,.val (.int v),l5,l6] st H Q:=w_st (i:=4) (p:=isI) (show decode kb5 125 = .ok (.istore 4,2) from by decide +kernel) rfl rfl rfl rfl rfl rfl
theorem m5_125i : M5 125 [l0,l1,l2,l3,.val (.int z),l5,l6] ((.int v)::st) H Q = M5 127 [l0,l1,l2,l3,.val (.int v),l5,l6] st H Q:=w_st (i:=4) (p:=isI) (show decode kb5 125 = .ok (.istore 4,2) from by decide +kernel) rfl rfl rfl rfl rfl rfl
theorem m5_125r : M5 125 [l0,l1,l2,l3,.val (.ref q),l5,l6] ((.int v)::st) H Q = M5 127 [l0,l1,l2,l3,.val (.int v),l5,l6] st H Q:=w_st (i:=4) (p:=isI) (show decode kb5 125 = .ok (.istore 4,2) from by decide +kernel) rfl rfl rfl rfl rfl rfl
theorem m5_125g (h : okS l4) : M5 125 [l0,l1,l2,l3,l4,l5,l6] ((.int v)::st) H Q = M5 127 [l0,l1,l2,l3,.val (.int v),l5,l6] st H Q:=by rcases h with rfl | ⟨z,rfl⟩ <;> first | exact m5_125u | exact m5_125i
theorem m5_127 : M5 127 ls st H Q = M5 128 ls (.int 0::st) H Q:=w_con (show decode kb5 127 = .ok (.iconst 0,1) from by decide +kernel) rfl (by decide)
theorem m5_128u : M5 128 [l0,l1,l2,l3,l4,.unset,l6] ((.int v)::st) H Q = M5 130 [l0,l1,l2,l3,l4,.val (.int v),l6] st H Q:=w_st (i:=5) (p:=isI) (show decode kb5 128 = .ok (.istore 5,2) from by decide +kernel) rfl rfl rfl rfl rfl rfl
theorem m5_128i : M5 128 [l0,l1,l2,l3,l4,.val (.int z),l6] ((.int v)::st) H Q = M5 130 [l0,l1,l2,l3,l4,.val (.int v),l6] st H Q:=w_st (i:=5) (p:=isI) (show decode kb5 128 = .ok (.istore 5,2) from by decide +kernel) rfl rfl rfl rfl rfl rfl
theorem m5_128r : M5 128 [l0,l1,l2,l3,l4,.val (.ref q),l6] ((.int v)::st) H Q = M5 130 [l0,l1,l2,l3,l4,.val (.int v),l6] st H Q:=w_st (i:=5) (p:=isI) (show decode kb5 128 = .ok (.istore 5,2) from by decide +kernel) rfl rfl rfl rfl rfl rfl
theorem m5_128g (h : okS l5) : M5 128 [l0,l1,l2,l3,l4,l5,l6] ((.int v)::st) H Q = M5 130 [l0,l1,l2,l3,l4,.val (.int v),l6] st H Q:=by rcases h with rfl | ⟨z,rfl⟩ <;> first | exact m5_128u | exact m5_128i
theorem m5_130 : M5 130 [l0,l1,l2,l3,l4,.val (.int v),l6] st H Q = M5 132 [l0,l1,l2,l3,l4,.val (.int v),l6] (.int v::st) H Q:=w_x (show decode kb5 130 = .ok (.iload 5,2) from by decide +kernel) rfl
theorem m5_132 : M5 132 [.val (.ref r),l1,l2,l3,l4,l5,l6] st H Q = M5 133 [.val (.ref r),l1,l2,l3,l4,l5,l6] (.ref r::st) H Q:=w_x (show decode kb5 132 = .ok (.aload_n 0,1) from by decide +kernel) rfl
theorem m5_133 : M5 133 ls (.ref (b + 1)::st) (put (b + 1) pre s A post) Q = M5 136 ls (.int (s 1)::st) (put (b + 1) pre s A post) Q:=w_get (show decode kb5 133 = .ok (.getfield 69,3) from by decide +kernel) gf_69 put_o rfl
theorem m5_136 : M5 136 ls (.int y::.int x::st) H Q = if x < y then M5 139 ls st H Q else M5 214 ls st H Q:=w_icmpN (show decode kb5 136 = .ok (.if_icmp .ge 78,3) from by decide +kernel) (i_ge x y) rfl
theorem m5_139 : M5 139 [.val (.ref r),l1,l2,l3,l4,l5,l6] st H Q = M5 140 [.val (.ref r),l1,l2,l3,l4,l5,l6] (.ref r::st) H Q:=w_x (show decode kb5 139 = .ok (.aload_n 0,1) from by decide +kernel) rfl
theorem m5_140 : M5 140 ls (.ref (b + 1)::st) (put (b + 1) pre s A post) Q = M5 143 ls (.ref ((b + 1) + 4)::st) (put (b + 1) pre s A post) Q:=w_get (show decode kb5 140 = .ok (.getfield 19,3) from by decide +kernel) gf_19 put_o rfl
theorem m5_143 : M5 143 [l0,l1,l2,l3,l4,.val (.int v),l6] st H Q = M5 145 [l0,l1,l2,l3,l4,.val (.int v),l6] (.int v::st) H Q:=w_x (show decode kb5 143 = .ok (.iload 5,2) from by decide +kernel) rfl
theorem m5_145  : M5 145 ls (.int j::.ref ((b + 1) + 4)::st) (put (b + 1) pre s A post) Q = (inB j (A 3)∧M5 146 ls (.int (getA (A 3) j)::st) (put (b + 1) pre s A post) Q):=w_ild (show decode kb5 145 = .ok (.iaload,1) from by decide +kernel) rfl put_a3
theorem m5_146 : M5 146 [l0,l1,l2,l3,.val (.int v),l5,l6] st H Q = M5 148 [l0,l1,l2,l3,.val (.int v),l5,l6] (.int v::st) H Q:=w_x (show decode kb5 146 = .ok (.iload 4,2) from by decide +kernel) rfl
theorem m5_148 : M5 148 ls (.int y::.int x::st) H Q = if x = y then M5 151 ls st H Q else M5 208 ls st H Q:=w_icmpN (show decode kb5 148 = .ok (.if_icmp .ne 60,3) from by decide +kernel) (i_ne x y) rfl
theorem m5_151 : M5 151 [.val (.ref r),l1,l2,l3,l4,l5,l6] st H Q = M5 152 [.val (.ref r),l1,l2,l3,l4,l5,l6] (.ref r::st) H Q:=w_x (show decode kb5 151 = .ok (.aload_n 0,1) from by decide +kernel) rfl
theorem m5_152 : M5 152 [l0,l1,l2,l3,l4,.val (.int v),l6] st H Q = M5 154 [l0,l1,l2,l3,l4,.val (.int v),l6] (.int v::st) H Q:=w_x (show decode kb5 152 = .ok (.iload 5,2) from by decide +kernel) rfl
theorem m5_154 : M5 154 [l0,.val (.int v),l2,l3,l4,l5,l6] st H Q = M5 155 [l0,.val (.int v),l2,l3,l4,l5,l6] (.int v::st) H Q:=w_x (show decode kb5 154 = .ok (.iload_n 1,1) from by decide +kernel) rfl
theorem m5_155 (a0 : Int32) (a1 : Int32) : M5 155 ls [.int a1,.int a0,.ref (b + 1)] (put (b + 1) pre s A post) Q = M14 0 [.val (.ref (b + 1)),.val (.int a0),.val (.int a1)] [] (put (b + 1) pre s A post) (fun v H1 => M5 158 ls (v.toList ++ []) H1 Q):=w_virt (as:=[.int a1,.int a0]) (rest:=[]) (a:=(b + 1)) (show decode kb5 155 = .ok (.invokevirtual 121,3) from by decide +kernel) cr5_121 put_o rfl rfl (Nat.le_of_ble_eq_true rfl) (by show 3≤3; omega) rfl
theorem m5_158 : M5 158 ls (.int x::st) H Q = if x = 0 then M5 161 ls st H Q else M5 208 ls st H Q:=w_ifN (show decode kb5 158 = .ok (.ifCond .ne 50,3) from by decide +kernel) (z_ne x) rfl
theorem m5_161 : M5 161 [.val (.ref r),l1,l2,l3,l4,l5,l6] st H Q = M5 162 [.val (.ref r),l1,l2,l3,l4,l5,l6] (.ref r::st) H Q:=w_x (show decode kb5 161 = .ok (.aload_n 0,1) from by decide +kernel) rfl
theorem m5_162 : M5 162 ls (.ref (b + 1)::st) (put (b + 1) pre s A post) Q = M5 165 ls (.ref ((b + 1) + 5)::st) (put (b + 1) pre s A post) Q:=w_get (show decode kb5 162 = .ok (.getfield 22,3) from by decide +kernel) gf_22 put_o rfl
theorem m5_165 : M5 165 [l0,l1,l2,l3,l4,.val (.int v),l6] st H Q = M5 167 [l0,l1,l2,l3,l4,.val (.int v),l6] (.int v::st) H Q:=w_x (show decode kb5 165 = .ok (.iload 5,2) from by decide +kernel) rfl
theorem m5_167  : M5 167 ls (.int j::.ref ((b + 1) + 5)::st) (put (b + 1) pre s A post) Q = (inB j (A 4)∧M5 168 ls (.int (getA (A 4) j)::st) (put (b + 1) pre s A post) Q):=w_ild (show decode kb5 167 = .ok (.iaload,1) from by decide +kernel) rfl put_a4
theorem m5_168u : M5 168 [l0,l1,l2,l3,l4,l5,.unset] ((.int v)::st) H Q = M5 170 [l0,l1,l2,l3,l4,l5,.val (.int v)] st H Q:=w_st (i:=6) (p:=isI) (show decode kb5 168 = .ok (.istore 6,2) from by decide +kernel) rfl rfl rfl rfl rfl rfl
theorem m5_168i : M5 168 [l0,l1,l2,l3,l4,l5,.val (.int z)] ((.int v)::st) H Q = M5 170 [l0,l1,l2,l3,l4,l5,.val (.int v)] st H Q:=w_st (i:=6) (p:=isI) (show decode kb5 168 = .ok (.istore 6,2) from by decide +kernel) rfl rfl rfl rfl rfl rfl
theorem m5_168r : M5 168 [l0,l1,l2,l3,l4,l5,.val (.ref q)] ((.int v)::st) H Q = M5 170 [l0,l1,l2,l3,l4,l5,.val (.int v)] st H Q:=w_st (i:=6) (p:=isI) (show decode kb5 168 = .ok (.istore 6,2) from by decide +kernel) rfl rfl rfl rfl rfl rfl
theorem m5_168g (h : okS l6) : M5 168 [l0,l1,l2,l3,l4,l5,l6] ((.int v)::st) H Q = M5 170 [l0,l1,l2,l3,l4,l5,.val (.int v)] st H Q:=by rcases h with rfl | ⟨z,rfl⟩ <;> first | exact m5_168u | exact m5_168i
theorem m5_170 : M5 170 [.val (.ref r),l1,l2,l3,l4,l5,l6] st H Q = M5 171 [.val (.ref r),l1,l2,l3,l4,l5,l6] (.ref r::st) H Q:=w_x (show decode kb5 170 = .ok (.aload_n 0,1) from by decide +kernel) rfl
theorem m5_171 : M5 171 ls (.ref (b + 1)::st) (put (b + 1) pre s A post) Q = M5 174 ls (.ref ((b + 1) + 16)::st) (put (b + 1) pre s A post) Q:=w_get (show decode kb5 171 = .ok (.getfield 56,3) from by decide +kernel) gf_56 put_o rfl
theorem m5_174 : M5 174 [l0,l1,l2,l3,l4,l5,.val (.int v)] st H Q = M5 176 [l0,l1,l2,l3,l4,l5,.val (.int v)] (.int v::st) H Q:=w_x (show decode kb5 174 = .ok (.iload 6,2) from by decide +kernel) rfl
theorem m5_176 : M5 176 ls (.int x::.ref q::st) H Q = M5 177 ls (.int x::.ref q::.int x::.ref q::st) H Q:=w_x (show decode kb5 176 = .ok (.dup2,1) from by decide +kernel) rfl
theorem m5_177  : M5 177 ls (.int j::.ref ((b + 1) + 16)::st) (put (b + 1) pre s A post) Q = (inB j (A 15)∧M5 178 ls (.int (getA (A 15) j)::st) (put (b + 1) pre s A post) Q):=w_ild (show decode kb5 177 = .ok (.iaload,1) from by decide +kernel) rfl put_a15
theorem m5_178 : M5 178 ls st H Q = M5 179 ls (.int 1::st) H Q:=w_con (show decode kb5 178 = .ok (.iconst 1,1) from by decide +kernel) rfl (by decide)
theorem m5_179 : M5 179 ls (.int y::.int x::st) H Q = M5 180 ls (.int (x - y)::st) H Q:=w_x (show decode kb5 179 = .ok (.isub,1) from by decide +kernel) rfl
theorem m5_180  : M5 180 ls (.int v::.int j::.ref ((b + 1) + 16)::st) (put (b + 1) pre s A post) Q = (inB j (A 15)∧M5 181 ls st (put (b + 1) pre s (ou A 15 (setA (A 15) j v)) post) Q):=w_ist (show decode kb5 180 = .ok (.iastore,1) from by decide +kernel) rfl put_a15 (by omega) rfl put_w15
theorem m5_181 : M5 181 [.val (.ref r),l1,l2,l3,l4,l5,l6] st H Q = M5 182 [.val (.ref r),l1,l2,l3,l4,l5,l6] (.ref r::st) H Q:=w_x (show decode kb5 181 = .ok (.aload_n 0,1) from by decide +kernel) rfl
theorem m5_182 : M5 182 ls (.ref (b + 1)::st) (put (b + 1) pre s A post) Q = M5 185 ls (.ref ((b + 1) + 16)::st) (put (b + 1) pre s A post) Q:=w_get (show decode kb5 182 = .ok (.getfield 56,3) from by decide +kernel) gf_56 put_o rfl
theorem m5_185 : M5 185 [l0,l1,l2,l3,l4,l5,.val (.int v)] st H Q = M5 187 [l0,l1,l2,l3,l4,l5,.val (.int v)] (.int v::st) H Q:=w_x (show decode kb5 185 = .ok (.iload 6,2) from by decide +kernel) rfl
theorem m5_187  : M5 187 ls (.int j::.ref ((b + 1) + 16)::st) (put (b + 1) pre s A post) Q = (inB j (A 15)∧M5 188 ls (.int (getA (A 15) j)::st) (put (b + 1) pre s A post) Q):=w_ild (show decode kb5 187 = .ok (.iaload,1) from by decide +kernel) rfl put_a15
theorem m5_188 : M5 188 ls (.int x::st) H Q = if x = 0 then M5 191 ls st H Q else M5 208 ls st H Q:=w_ifN (show decode kb5 188 = .ok (.ifCond .ne 20,3) from by decide +kernel) (z_ne x) rfl
theorem m5_191 : M5 191 [l0,l1,.val (.int v),l3,l4,l5,l6] st H Q = M5 192 [l0,l1,.val (.int v),l3,l4,l5,l6] (.int v::st) H Q:=w_x (show decode kb5 191 = .ok (.iload_n 2,1) from by decide +kernel) rfl
theorem m5_192 : M5 192 ls st H Q = M5 194 ls (.int 32::st) H Q:=w_con (show decode kb5 192 = .ok (.bipush 32,2) from by decide +kernel) rfl (by decide)
theorem m5_194 : M5 194 ls (.int y::.int x::st) H Q = if x < y then M5 197 ls st H Q else M5 208 ls st H Q:=w_icmpN (show decode kb5 194 = .ok (.if_icmp .ge 14,3) from by decide +kernel) (i_ge x y) rfl
theorem m5_197 : M5 197 [.val (.ref r),l1,l2,l3,l4,l5,l6] st H Q = M5 198 [.val (.ref r),l1,l2,l3,l4,l5,l6] (.ref r::st) H Q:=w_x (show decode kb5 197 = .ok (.aload_n 0,1) from by decide +kernel) rfl
theorem m5_198 : M5 198 ls (.ref (b + 1)::st) (put (b + 1) pre s A post) Q = M5 201 ls (.ref ((b + 1) + 15)::st) (put (b + 1) pre s A post) Q:=w_get (show decode kb5 198 = .ok (.getfield 53,3) from by decide +kernel) gf_53 put_o rfl
theorem m5_201 : M5 201 [l0,l1,.val (.int v),l3,l4,l5,l6] st H Q = M5 202 [l0,l1,.val (.int v),l3,l4,l5,l6] (.int v::st) H Q:=w_x (show decode kb5 201 = .ok (.iload_n 2,1) from by decide +kernel) rfl
theorem m5_202 : M5 202 [l0,l1,l2,l3,l4,l5,.val (.int v)] st H Q = M5 204 [l0,l1,l2,l3,l4,l5,.val (.int v)] (.int v::st) H Q:=w_x (show decode kb5 202 = .ok (.iload 6,2) from by decide +kernel) rfl
theorem m5_204  : M5 204 ls (.int v::.int j::.ref ((b + 1) + 15)::st) (put (b + 1) pre s A post) Q = (inB j (A 14)∧M5 205 ls st (put (b + 1) pre s (ou A 14 (setA (A 14) j v)) post) Q):=w_ist (show decode kb5 204 = .ok (.iastore,1) from by decide +kernel) rfl put_a14 (by omega) rfl put_w14
theorem m5_205 : M5 205 [l0,l1,.val (.int v),l3,l4,l5,l6] st H Q = M5 208 [l0,l1,.val (.int (v + 1)),l3,l4,l5,l6] st H Q:=w_iinc (show decode kb5 205 = .ok (.iinc 2 1,3) from by decide +kernel) rfl (by decide) rfl
theorem m5_208 : M5 208 [l0,l1,l2,l3,l4,.val (.int v),l6] st H Q = M5 211 [l0,l1,l2,l3,l4,.val (.int (v + 1)),l6] st H Q:=w_iinc (show decode kb5 208 = .ok (.iinc 5 1,3) from by decide +kernel) rfl (by decide) rfl
theorem m5_211 : M5 211 ls st H Q = M5 130 ls st H Q:=w_x (show decode kb5 211 = .ok (.goto (-81),3) from by decide +kernel) rfl
theorem m5_214 : M5 214 [l0,l1,l2,.val (.int v),l4,l5,l6] st H Q = M5 217 [l0,l1,l2,.val (.int (v + 1)),l4,l5,l6] st H Q:=w_iinc (show decode kb5 214 = .ok (.iinc 3 1,3) from by decide +kernel) rfl (by decide) rfl
theorem m5_217 : M5 217 ls st H Q = M5 108 ls st H Q:=w_x (show decode kb5 217 = .ok (.goto (-109),3) from by decide +kernel) rfl
theorem m5_220 : M5 220 [l0,l1,.val (.int v),l3,l4,l5,l6] st H Q = M5 221 [l0,l1,.val (.int v),l3,l4,l5,l6] (.int v::st) H Q:=w_x (show decode kb5 220 = .ok (.iload_n 2,1) from by decide +kernel) rfl
theorem m5_221 : M5 221 [.val (.ref r),l1,l2,l3,l4,l5,l6] st H Q = M5 222 [.val (.ref r),l1,l2,l3,l4,l5,l6] (.ref r::st) H Q:=w_x (show decode kb5 221 = .ok (.aload_n 0,1) from by decide +kernel) rfl
theorem m5_222 : M5 222 ls (.ref (b + 1)::st) (put (b + 1) pre s A post) Q = M5 225 ls (.int (s 0)::st) (put (b + 1) pre s A post) Q:=w_get (show decode kb5 222 = .ok (.getfield 65,3) from by decide +kernel) gf_65 put_o rfl
theorem m5_225 : M5 225 ls (.int y::.int x::st) H Q = if x = y then M5 228 ls st H Q else M5 232 ls st H Q:=w_icmpN (show decode kb5 225 = .ok (.if_icmp .ne 7,3) from by decide +kernel) (i_ne x y) rfl
theorem m5_228 : M5 228 ls st H Q = M5 229 ls (.int 1::st) H Q:=w_con (show decode kb5 228 = .ok (.iconst 1,1) from by decide +kernel) rfl (by decide)
theorem m5_229 : M5 229 ls st H Q = M5 233 ls st H Q:=w_x (show decode kb5 229 = .ok (.goto 4,3) from by decide +kernel) rfl
theorem m5_232 : M5 232 ls st H Q = M5 233 ls (.int 0::st) H Q:=w_con (show decode kb5 232 = .ok (.iconst 0,1) from by decide +kernel) rfl (by decide)
theorem m5_233 : M5 233 ls (.int z::st) H Q = Q (some (.int (nar .boolean z))) H:=w_iretN (show decode kb5 233 = .ok (.ireturn,1) from by decide +kernel) rfl (by simp)
theorem m6_0 : M6 0 ls st H Q = M6 1 ls (.int 0::st) H Q:=w_con (show decode kb6 0 = .ok (.iconst 0,1) from by decide +kernel) rfl (by decide)
theorem m6_1u : M6 1 [l0,l1,.unset,l3,l4,l5,l6,l7] ((.int v)::st) H Q = M6 2 [l0,l1,.val (.int v),l3,l4,l5,l6,l7] st H Q:=w_st (i:=2) (p:=isI) (show decode kb6 1 = .ok (.istore_n 2,1) from by decide +kernel) rfl rfl rfl rfl rfl rfl
theorem m6_2 : M6 2 ls st H Q = M6 3 ls (.int 0::st) H Q:=w_con (show decode kb6 2 = .ok (.iconst 0,1) from by decide +kernel) rfl (by decide)
theorem m6_3u : M6 3 [l0,l1,l2,.unset,l4,l5,l6,l7] ((.int v)::st) H Q = M6 4 [l0,l1,l2,.val (.int v),l4,l5,l6,l7] st H Q:=w_st (i:=3) (p:=isI) (show decode kb6 3 = .ok (.istore_n 3,1) from by decide +kernel) rfl rfl rfl rfl rfl rfl
theorem m6_4 : M6 4 [l0,l1,l2,.val (.int v),l4,l5,l6,l7] st H Q = M6 5 [l0,l1,l2,.val (.int v),l4,l5,l6,l7] (.int v::st) H Q:=w_x (show decode kb6 4 = .ok (.iload_n 3,1) from by decide +kernel) rfl
theorem m6_5 : M6 5 [.val (.ref r),l1,l2,l3,l4,l5,l6,l7] st H Q = M6 6 [.val (.ref r),l1,l2,l3,l4,l5,l6,l7] (.ref r::st) H Q:=w_x (show decode kb6 5 = .ok (.aload_n 0,1) from by decide +kernel) rfl
theorem m6_6 : M6 6 ls (.ref (b + 1)::st) (put (b + 1) pre s A post) Q = M6 9 ls (.int (s 0)::st) (put (b + 1) pre s A post) Q:=w_get (show decode kb6 6 = .ok (.getfield 65,3) from by decide +kernel) gf_65 put_o rfl
theorem m6_9 : M6 9 ls (.int y::.int x::st) H Q = if x < y then M6 12 ls st H Q else M6 126 ls st H Q:=w_icmpN (show decode kb6 9 = .ok (.if_icmp .ge 117,3) from by decide +kernel) (i_ge x y) rfl
theorem m6_12 : M6 12 [.val (.ref r),l1,l2,l3,l4,l5,l6,l7] st H Q = M6 13 [.val (.ref r),l1,l2,l3,l4,l5,l6,l7] (.ref r::st) H Q:=w_x (show decode kb6 12 = .ok (.aload_n 0,1) from by decide +kernel) rfl
theorem m6_13 : M6 13 ls (.ref (b + 1)::st) (put (b + 1) pre s A post) Q = M6 16 ls (.ref ((b + 1) + 15)::st) (put (b + 1) pre s A post) Q:=w_get (show decode kb6 13 = .ok (.getfield 53,3) from by decide +kernel) gf_53 put_o rfl
theorem m6_16 : M6 16 [l0,l1,l2,.val (.int v),l4,l5,l6,l7] st H Q = M6 17 [l0,l1,l2,.val (.int v),l4,l5,l6,l7] (.int v::st) H Q:=w_x (show decode kb6 16 = .ok (.iload_n 3,1) from by decide +kernel) rfl
theorem m6_17  : M6 17 ls (.int j::.ref ((b + 1) + 15)::st) (put (b + 1) pre s A post) Q = (inB j (A 14)∧M6 18 ls (.int (getA (A 14) j)::st) (put (b + 1) pre s A post) Q):=w_ild (show decode kb6 17 = .ok (.iaload,1) from by decide +kernel) rfl put_a14
theorem m6_18u : M6 18 [l0,l1,l2,l3,.unset,l5,l6,l7] ((.int v)::st) H Q = M6 20 [l0,l1,l2,l3,.val (.int v),l5,l6,l7] st H Q:=w_st (i:=4) (p:=isI) (show decode kb6 18 = .ok (.istore 4,2) from by decide +kernel) rfl rfl rfl rfl rfl rfl
theorem m6_18i : M6 18 [l0,l1,l2,l3,.val (.int z),l5,l6,l7] ((.int v)::st) H Q = M6 20 [l0,l1,l2,l3,.val (.int v),l5,l6,l7] st H Q:=w_st (i:=4) (p:=isI) (show decode kb6 18 = .ok (.istore 4,2) from by decide +kernel) rfl rfl rfl rfl rfl rfl
theorem m6_18r : M6 18 [l0,l1,l2,l3,.val (.ref q),l5,l6,l7] ((.int v)::st) H Q = M6 20 [l0,l1,l2,l3,.val (.int v),l5,l6,l7] st H Q:=w_st (i:=4) (p:=isI) (show decode kb6 18 = .ok (.istore 4,2) from by decide +kernel) rfl rfl rfl rfl rfl rfl
theorem m6_18g (h : okS l4) : M6 18 [l0,l1,l2,l3,l4,l5,l6,l7] ((.int v)::st) H Q = M6 20 [l0,l1,l2,l3,.val (.int v),l5,l6,l7] st H Q:=by rcases h with rfl | ⟨z,rfl⟩ <;> first | exact m6_18u | exact m6_18i
theorem m6_20 : M6 20 [.val (.ref r),l1,l2,l3,l4,l5,l6,l7] st H Q = M6 21 [.val (.ref r),l1,l2,l3,l4,l5,l6,l7] (.ref r::st) H Q:=w_x (show decode kb6 20 = .ok (.aload_n 0,1) from by decide +kernel) rfl
theorem m6_21 : M6 21 ls (.ref (b + 1)::st) (put (b + 1) pre s A post) Q = M6 24 ls (.ref ((b + 1) + 2)::st) (put (b + 1) pre s A post) Q:=w_get (show decode kb6 21 = .ok (.getfield 13,3) from by decide +kernel) gf_13 put_o rfl
theorem m6_24 : M6 24 [l0,l1,l2,l3,.val (.int v),l5,l6,l7] st H Q = M6 26 [l0,l1,l2,l3,.val (.int v),l5,l6,l7] (.int v::st) H Q:=w_x (show decode kb6 24 = .ok (.iload 4,2) from by decide +kernel) rfl
theorem m6_26  : M6 26 ls (.int j::.ref ((b + 1) + 2)::st) (put (b + 1) pre s A post) Q = (inB j (A 1)∧M6 27 ls (.int (getA (A 1) j)::st) (put (b + 1) pre s A post) Q):=w_ild (show decode kb6 26 = .ok (.iaload,1) from by decide +kernel) rfl put_a1
theorem m6_27u : M6 27 [l0,l1,l2,l3,l4,.unset,l6,l7] ((.int v)::st) H Q = M6 29 [l0,l1,l2,l3,l4,.val (.int v),l6,l7] st H Q:=w_st (i:=5) (p:=isI) (show decode kb6 27 = .ok (.istore 5,2) from by decide +kernel) rfl rfl rfl rfl rfl rfl
theorem m6_27i : M6 27 [l0,l1,l2,l3,l4,.val (.int z),l6,l7] ((.int v)::st) H Q = M6 29 [l0,l1,l2,l3,l4,.val (.int v),l6,l7] st H Q:=w_st (i:=5) (p:=isI) (show decode kb6 27 = .ok (.istore 5,2) from by decide +kernel) rfl rfl rfl rfl rfl rfl
theorem m6_27r : M6 27 [l0,l1,l2,l3,l4,.val (.ref q),l6,l7] ((.int v)::st) H Q = M6 29 [l0,l1,l2,l3,l4,.val (.int v),l6,l7] st H Q:=w_st (i:=5) (p:=isI) (show decode kb6 27 = .ok (.istore 5,2) from by decide +kernel) rfl rfl rfl rfl rfl rfl
theorem m6_27g (h : okS l5) : M6 27 [l0,l1,l2,l3,l4,l5,l6,l7] ((.int v)::st) H Q = M6 29 [l0,l1,l2,l3,l4,.val (.int v),l6,l7] st H Q:=by rcases h with rfl | ⟨z,rfl⟩ <;> first | exact m6_27u | exact m6_27i
theorem m6_29 : M6 29 ls st H Q = M6 30 ls (.int 0::st) H Q:=w_con (show decode kb6 29 = .ok (.iconst 0,1) from by decide +kernel) rfl (by decide)
theorem m6_30u : M6 30 [l0,l1,l2,l3,l4,l5,.unset,l7] ((.int v)::st) H Q = M6 32 [l0,l1,l2,l3,l4,l5,.val (.int v),l7] st H Q:=w_st (i:=6) (p:=isI) (show decode kb6 30 = .ok (.istore 6,2) from by decide +kernel) rfl rfl rfl rfl rfl rfl
theorem m6_30i : M6 30 [l0,l1,l2,l3,l4,l5,.val (.int z),l7] ((.int v)::st) H Q = M6 32 [l0,l1,l2,l3,l4,l5,.val (.int v),l7] st H Q:=w_st (i:=6) (p:=isI) (show decode kb6 30 = .ok (.istore 6,2) from by decide +kernel) rfl rfl rfl rfl rfl rfl
theorem m6_30r : M6 30 [l0,l1,l2,l3,l4,l5,.val (.ref q),l7] ((.int v)::st) H Q = M6 32 [l0,l1,l2,l3,l4,l5,.val (.int v),l7] st H Q:=w_st (i:=6) (p:=isI) (show decode kb6 30 = .ok (.istore 6,2) from by decide +kernel) rfl rfl rfl rfl rfl rfl
theorem m6_30g (h : okS l6) : M6 30 [l0,l1,l2,l3,l4,l5,l6,l7] ((.int v)::st) H Q = M6 32 [l0,l1,l2,l3,l4,l5,.val (.int v),l7] st H Q:=by rcases h with rfl | ⟨z,rfl⟩ <;> first | exact m6_30u | exact m6_30i
theorem m6_32 : M6 32 [l0,l1,l2,l3,l4,l5,.val (.int v),l7] st H Q = M6 34 [l0,l1,l2,l3,l4,l5,.val (.int v),l7] (.int v::st) H Q:=w_x (show decode kb6 32 = .ok (.iload 6,2) from by decide +kernel) rfl
theorem m6_34 : M6 34 [.val (.ref r),l1,l2,l3,l4,l5,l6,l7] st H Q = M6 35 [.val (.ref r),l1,l2,l3,l4,l5,l6,l7] (.ref r::st) H Q:=w_x (show decode kb6 34 = .ok (.aload_n 0,1) from by decide +kernel) rfl
theorem m6_35 : M6 35 ls (.ref (b + 1)::st) (put (b + 1) pre s A post) Q = M6 38 ls (.int (s 1)::st) (put (b + 1) pre s A post) Q:=w_get (show decode kb6 35 = .ok (.getfield 69,3) from by decide +kernel) gf_69 put_o rfl
theorem m6_38 : M6 38 ls (.int y::.int x::st) H Q = if x < y then M6 41 ls st H Q else M6 102 ls st H Q:=w_icmpN (show decode kb6 38 = .ok (.if_icmp .ge 64,3) from by decide +kernel) (i_ge x y) rfl
theorem m6_41 : M6 41 [.val (.ref r),l1,l2,l3,l4,l5,l6,l7] st H Q = M6 42 [.val (.ref r),l1,l2,l3,l4,l5,l6,l7] (.ref r::st) H Q:=w_x (show decode kb6 41 = .ok (.aload_n 0,1) from by decide +kernel) rfl
theorem m6_42 : M6 42 ls (.ref (b + 1)::st) (put (b + 1) pre s A post) Q = M6 45 ls (.ref ((b + 1) + 5)::st) (put (b + 1) pre s A post) Q:=w_get (show decode kb6 42 = .ok (.getfield 22,3) from by decide +kernel) gf_22 put_o rfl
theorem m6_45 : M6 45 [l0,l1,l2,l3,l4,l5,.val (.int v),l7] st H Q = M6 47 [l0,l1,l2,l3,l4,l5,.val (.int v),l7] (.int v::st) H Q:=w_x (show decode kb6 45 = .ok (.iload 6,2) from by decide +kernel) rfl
theorem m6_47  : M6 47 ls (.int j::.ref ((b + 1) + 5)::st) (put (b + 1) pre s A post) Q = (inB j (A 4)∧M6 48 ls (.int (getA (A 4) j)::st) (put (b + 1) pre s A post) Q):=w_ild (show decode kb6 47 = .ok (.iaload,1) from by decide +kernel) rfl put_a4
theorem m6_48 : M6 48 [l0,l1,l2,l3,.val (.int v),l5,l6,l7] st H Q = M6 50 [l0,l1,l2,l3,.val (.int v),l5,l6,l7] (.int v::st) H Q:=w_x (show decode kb6 48 = .ok (.iload 4,2) from by decide +kernel) rfl
theorem m6_50 : M6 50 ls (.int y::.int x::st) H Q = if x = y then M6 53 ls st H Q else M6 96 ls st H Q:=w_icmpN (show decode kb6 50 = .ok (.if_icmp .ne 46,3) from by decide +kernel) (i_ne x y) rfl
theorem m6_53 : M6 53 [.val (.ref r),l1,l2,l3,l4,l5,l6,l7] st H Q = M6 54 [.val (.ref r),l1,l2,l3,l4,l5,l6,l7] (.ref r::st) H Q:=w_x (show decode kb6 53 = .ok (.aload_n 0,1) from by decide +kernel) rfl
theorem m6_54 : M6 54 [l0,l1,l2,l3,l4,l5,.val (.int v),l7] st H Q = M6 56 [l0,l1,l2,l3,l4,l5,.val (.int v),l7] (.int v::st) H Q:=w_x (show decode kb6 54 = .ok (.iload 6,2) from by decide +kernel) rfl
theorem m6_56 : M6 56 [l0,.val (.int v),l2,l3,l4,l5,l6,l7] st H Q = M6 57 [l0,.val (.int v),l2,l3,l4,l5,l6,l7] (.int v::st) H Q:=w_x (show decode kb6 56 = .ok (.iload_n 1,1) from by decide +kernel) rfl
theorem cr6_121 : vR tables_1 dn y6 121 = some (true,y14,prog_1_method_19_code,3,(some .int),2,0):=pR_of (cR_of (by decide +kernel) rc_14 dn_14 dn_6 (sig:=⟨[.int,.int],some .int⟩) (by decide +kernel) (by decide +kernel) rfl rfl) (by decide +kernel) (by decide +kernel)
theorem m6_57 (a0 : Int32) (a1 : Int32) : M6 57 ls [.int a1,.int a0,.ref (b + 1)] (put (b + 1) pre s A post) Q = M14 0 [.val (.ref (b + 1)),.val (.int a0),.val (.int a1)] [] (put (b + 1) pre s A post) (fun v H1 => M6 60 ls (v.toList ++ []) H1 Q):=w_virt (as:=[.int a1,.int a0]) (rest:=[]) (a:=(b + 1)) (show decode kb6 57 = .ok (.invokevirtual 121,3) from by decide +kernel) cr6_121 put_o rfl rfl (Nat.le_of_ble_eq_true rfl) (by show 3≤3; omega) rfl
theorem m6_60 : M6 60 ls (.int x::st) H Q = if x = 0 then M6 63 ls st H Q else M6 96 ls st H Q:=w_ifN (show decode kb6 60 = .ok (.ifCond .ne 36,3) from by decide +kernel) (z_ne x) rfl
theorem m6_63 : M6 63 [.val (.ref r),l1,l2,l3,l4,l5,l6,l7] st H Q = M6 64 [.val (.ref r),l1,l2,l3,l4,l5,l6,l7] (.ref r::st) H Q:=w_x (show decode kb6 63 = .ok (.aload_n 0,1) from by decide +kernel) rfl
theorem m6_64 : M6 64 ls (.ref (b + 1)::st) (put (b + 1) pre s A post) Q = M6 67 ls (.ref ((b + 1) + 17)::st) (put (b + 1) pre s A post) Q:=w_get (show decode kb6 64 = .ok (.getfield 59,3) from by decide +kernel) gf_59 put_o rfl
theorem m6_67 : M6 67 [.val (.ref r),l1,l2,l3,l4,l5,l6,l7] st H Q = M6 68 [.val (.ref r),l1,l2,l3,l4,l5,l6,l7] (.ref r::st) H Q:=w_x (show decode kb6 67 = .ok (.aload_n 0,1) from by decide +kernel) rfl
theorem m6_68 : M6 68 ls (.ref (b + 1)::st) (put (b + 1) pre s A post) Q = M6 71 ls (.ref ((b + 1) + 4)::st) (put (b + 1) pre s A post) Q:=w_get (show decode kb6 68 = .ok (.getfield 19,3) from by decide +kernel) gf_19 put_o rfl
theorem m6_71 : M6 71 [l0,l1,l2,l3,l4,l5,.val (.int v),l7] st H Q = M6 73 [l0,l1,l2,l3,l4,l5,.val (.int v),l7] (.int v::st) H Q:=w_x (show decode kb6 71 = .ok (.iload 6,2) from by decide +kernel) rfl
theorem m6_73  : M6 73 ls (.int j::.ref ((b + 1) + 4)::st) (put (b + 1) pre s A post) Q = (inB j (A 3)∧M6 74 ls (.int (getA (A 3) j)::st) (put (b + 1) pre s A post) Q):=w_ild (show decode kb6 73 = .ok (.iaload,1) from by decide +kernel) rfl put_a3
theorem m6_74  : M6 74 ls (.int j::.ref ((b + 1) + 17)::st) (put (b + 1) pre s A post) Q = (inB j (A 16)∧M6 75 ls (.int (getA (A 16) j)::st) (put (b + 1) pre s A post) Q):=w_ild (show decode kb6 74 = .ok (.iaload,1) from by decide +kernel) rfl put_a16
theorem m6_75 : M6 75 [.val (.ref r),l1,l2,l3,l4,l5,l6,l7] st H Q = M6 76 [.val (.ref r),l1,l2,l3,l4,l5,l6,l7] (.ref r::st) H Q:=w_x (show decode kb6 75 = .ok (.aload_n 0,1) from by decide +kernel) rfl
theorem m6_76 : M6 76 ls (.ref (b + 1)::st) (put (b + 1) pre s A post) Q = M6 79 ls (.ref ((b + 1) + 2)::st) (put (b + 1) pre s A post) Q:=w_get (show decode kb6 76 = .ok (.getfield 13,3) from by decide +kernel) gf_13 put_o rfl
theorem m6_79 : M6 79 [l0,l1,l2,l3,.val (.int v),l5,l6,l7] st H Q = M6 81 [l0,l1,l2,l3,.val (.int v),l5,l6,l7] (.int v::st) H Q:=w_x (show decode kb6 79 = .ok (.iload 4,2) from by decide +kernel) rfl
theorem m6_81  : M6 81 ls (.int j::.ref ((b + 1) + 2)::st) (put (b + 1) pre s A post) Q = (inB j (A 1)∧M6 82 ls (.int (getA (A 1) j)::st) (put (b + 1) pre s A post) Q):=w_ild (show decode kb6 81 = .ok (.iaload,1) from by decide +kernel) rfl put_a1
theorem m6_82 : M6 82 ls (.int y::.int x::st) H Q = M6 83 ls (.int (x + y)::st) H Q:=w_x (show decode kb6 82 = .ok (.iadd,1) from by decide +kernel) rfl
theorem m6_83u : M6 83 [l0,l1,l2,l3,l4,l5,l6,.unset] ((.int v)::st) H Q = M6 85 [l0,l1,l2,l3,l4,l5,l6,.val (.int v)] st H Q:=w_st (i:=7) (p:=isI) (show decode kb6 83 = .ok (.istore 7,2) from by decide +kernel) rfl rfl rfl rfl rfl rfl
theorem m6_83i : M6 83 [l0,l1,l2,l3,l4,l5,l6,.val (.int z)] ((.int v)::st) H Q = M6 85 [l0,l1,l2,l3,l4,l5,l6,.val (.int v)] st H Q:=w_st (i:=7) (p:=isI) (show decode kb6 83 = .ok (.istore 7,2) from by decide +kernel) rfl rfl rfl rfl rfl rfl
theorem m6_83r : M6 83 [l0,l1,l2,l3,l4,l5,l6,.val (.ref q)] ((.int v)::st) H Q = M6 85 [l0,l1,l2,l3,l4,l5,l6,.val (.int v)] st H Q:=w_st (i:=7) (p:=isI) (show decode kb6 83 = .ok (.istore 7,2) from by decide +kernel) rfl rfl rfl rfl rfl rfl
theorem m6_83g (h : okS l7) : M6 83 [l0,l1,l2,l3,l4,l5,l6,l7] ((.int v)::st) H Q = M6 85 [l0,l1,l2,l3,l4,l5,l6,.val (.int v)] st H Q:=by rcases h with rfl | ⟨z,rfl⟩ <;> first | exact m6_83u | exact m6_83i
theorem m6_85 : M6 85 [l0,l1,l2,l3,l4,l5,l6,.val (.int v)] st H Q = M6 87 [l0,l1,l2,l3,l4,l5,l6,.val (.int v)] (.int v::st) H Q:=w_x (show decode kb6 85 = .ok (.iload 7,2) from by decide +kernel) rfl
theorem m6_87 : M6 87 [l0,l1,l2,l3,l4,.val (.int v),l6,l7] st H Q = M6 89 [l0,l1,l2,l3,l4,.val (.int v),l6,l7] (.int v::st) H Q:=w_x (show decode kb6 87 = .ok (.iload 5,2) from by decide +kernel) rfl
theorem m6_89 : M6 89 ls (.int y::.int x::st) H Q = if y < x then M6 92 ls st H Q else M6 96 ls st H Q:=w_icmpN (show decode kb6 89 = .ok (.if_icmp .le 7,3) from by decide +kernel) (i_le x y) rfl
theorem m6_92 : M6 92 [l0,l1,l2,l3,l4,l5,l6,.val (.int v)] st H Q = M6 94 [l0,l1,l2,l3,l4,l5,l6,.val (.int v)] (.int v::st) H Q:=w_x (show decode kb6 92 = .ok (.iload 7,2) from by decide +kernel) rfl
theorem m6_94i : M6 94 [l0,l1,l2,l3,l4,.val (.int z),l6,l7] ((.int v)::st) H Q = M6 96 [l0,l1,l2,l3,l4,.val (.int v),l6,l7] st H Q:=w_st (i:=5) (p:=isI) (show decode kb6 94 = .ok (.istore 5,2) from by decide +kernel) rfl rfl rfl rfl rfl rfl
theorem m6_96 : M6 96 [l0,l1,l2,l3,l4,l5,.val (.int v),l7] st H Q = M6 99 [l0,l1,l2,l3,l4,l5,.val (.int (v + 1)),l7] st H Q:=w_iinc (show decode kb6 96 = .ok (.iinc 6 1,3) from by decide +kernel) rfl (by decide) rfl
theorem m6_99 : M6 99 ls st H Q = M6 32 ls st H Q:=w_x (show decode kb6 99 = .ok (.goto (-67),3) from by decide +kernel) rfl
theorem m6_102 : M6 102 [.val (.ref r),l1,l2,l3,l4,l5,l6,l7] st H Q = M6 103 [.val (.ref r),l1,l2,l3,l4,l5,l6,l7] (.ref r::st) H Q:=w_x (show decode kb6 102 = .ok (.aload_n 0,1) from by decide +kernel) rfl
theorem m6_103 : M6 103 ls (.ref (b + 1)::st) (put (b + 1) pre s A post) Q = M6 106 ls (.ref ((b + 1) + 17)::st) (put (b + 1) pre s A post) Q:=w_get (show decode kb6 103 = .ok (.getfield 59,3) from by decide +kernel) gf_59 put_o rfl
theorem m6_106 : M6 106 [l0,l1,l2,l3,.val (.int v),l5,l6,l7] st H Q = M6 108 [l0,l1,l2,l3,.val (.int v),l5,l6,l7] (.int v::st) H Q:=w_x (show decode kb6 106 = .ok (.iload 4,2) from by decide +kernel) rfl
theorem m6_108 : M6 108 [l0,l1,l2,l3,l4,.val (.int v),l6,l7] st H Q = M6 110 [l0,l1,l2,l3,l4,.val (.int v),l6,l7] (.int v::st) H Q:=w_x (show decode kb6 108 = .ok (.iload 5,2) from by decide +kernel) rfl
theorem m6_110  : M6 110 ls (.int v::.int j::.ref ((b + 1) + 17)::st) (put (b + 1) pre s A post) Q = (inB j (A 16)∧M6 111 ls st (put (b + 1) pre s (ou A 16 (setA (A 16) j v)) post) Q):=w_ist (show decode kb6 110 = .ok (.iastore,1) from by decide +kernel) rfl put_a16 (by omega) rfl put_w16
theorem m6_111 : M6 111 [l0,l1,l2,l3,l4,.val (.int v),l6,l7] st H Q = M6 113 [l0,l1,l2,l3,l4,.val (.int v),l6,l7] (.int v::st) H Q:=w_x (show decode kb6 111 = .ok (.iload 5,2) from by decide +kernel) rfl
theorem m6_113 : M6 113 [l0,l1,.val (.int v),l3,l4,l5,l6,l7] st H Q = M6 114 [l0,l1,.val (.int v),l3,l4,l5,l6,l7] (.int v::st) H Q:=w_x (show decode kb6 113 = .ok (.iload_n 2,1) from by decide +kernel) rfl
theorem m6_114 : M6 114 ls (.int y::.int x::st) H Q = if y < x then M6 117 ls st H Q else M6 120 ls st H Q:=w_icmpN (show decode kb6 114 = .ok (.if_icmp .le 6,3) from by decide +kernel) (i_le x y) rfl
theorem m6_117 : M6 117 [l0,l1,l2,l3,l4,.val (.int v),l6,l7] st H Q = M6 119 [l0,l1,l2,l3,l4,.val (.int v),l6,l7] (.int v::st) H Q:=w_x (show decode kb6 117 = .ok (.iload 5,2) from by decide +kernel) rfl
theorem m6_119i : M6 119 [l0,l1,.val (.int z),l3,l4,l5,l6,l7] ((.int v)::st) H Q = M6 120 [l0,l1,.val (.int v),l3,l4,l5,l6,l7] st H Q:=w_st (i:=2) (p:=isI) (show decode kb6 119 = .ok (.istore_n 2,1) from by decide +kernel) rfl rfl rfl rfl rfl rfl
theorem m6_120 : M6 120 [l0,l1,l2,.val (.int v),l4,l5,l6,l7] st H Q = M6 123 [l0,l1,l2,.val (.int (v + 1)),l4,l5,l6,l7] st H Q:=w_iinc (show decode kb6 120 = .ok (.iinc 3 1,3) from by decide +kernel) rfl (by decide) rfl
theorem m6_123 : M6 123 ls st H Q = M6 4 ls st H Q:=w_x (show decode kb6 123 = .ok (.goto (-119),3) from by decide +kernel) rfl
theorem m6_126 : M6 126 [l0,l1,.val (.int v),l3,l4,l5,l6,l7] st H Q = M6 127 [l0,l1,.val (.int v),l3,l4,l5,l6,l7] (.int v::st) H Q:=w_x (show decode kb6 126 = .ok (.iload_n 2,1) from by decide +kernel) rfl
theorem m6_127 : M6 127 ls (.int z::st) H Q = Q (some (.int z)) H:=w_iret (show decode kb6 127 = .ok (.ireturn,1) from by decide +kernel) rfl
theorem m7_0 : M7 0 ls st H Q = M7 1 ls (.int 0::st) H Q:=w_con (show decode kb7 0 = .ok (.iconst 0,1) from by decide +kernel) rfl (by decide)
theorem m7_1u : M7 1 [l0,.unset,l2] ((.int v)::st) H Q = M7 2 [l0,.val (.int v),l2] st H Q:=w_st (i:=1) (p:=isI) (show decode kb7 1 = .ok (.istore_n 1,1) from by decide +kernel) rfl rfl rfl rfl rfl rfl
theorem m7_2 : M7 2 [l0,.val (.int v),l2] st H Q = M7 3 [l0,.val (.int v),l2] (.int v::st) H Q:=w_x (show decode kb7 2 = .ok (.iload_n 1,1) from by decide +kernel) rfl
theorem m7_3 : M7 3 [.val (.ref r),l1,l2] st H Q = M7 4 [.val (.ref r),l1,l2] (.ref r::st) H Q:=w_x (show decode kb7 3 = .ok (.aload_n 0,1) from by decide +kernel) rfl
theorem m7_4 : M7 4 ls (.ref (b + 1)::st) (put (b + 1) pre s A post) Q = M7 7 ls (.int (s 0)::st) (put (b + 1) pre s A post) Q:=w_get (show decode kb7 4 = .ok (.getfield 65,3) from by decide +kernel) gf_65 put_o rfl
theorem m7_7 : M7 7 ls (.int y::.int x::st) H Q = if x < y then M7 10 ls st H Q else M7 44 ls st H Q:=w_icmpN (show decode kb7 7 = .ok (.if_icmp .ge 37,3) from by decide +kernel) (i_ge x y) rfl
theorem m7_10 : M7 10 ls st H Q = M7 11 ls (.int 0::st) H Q:=w_con (show decode kb7 10 = .ok (.iconst 0,1) from by decide +kernel) rfl (by decide)
theorem m7_11u : M7 11 [l0,l1,.unset] ((.int v)::st) H Q = M7 12 [l0,l1,.val (.int v)] st H Q:=w_st (i:=2) (p:=isI) (show decode kb7 11 = .ok (.istore_n 2,1) from by decide +kernel) rfl rfl rfl rfl rfl rfl
theorem m7_11i : M7 11 [l0,l1,.val (.int z)] ((.int v)::st) H Q = M7 12 [l0,l1,.val (.int v)] st H Q:=w_st (i:=2) (p:=isI) (show decode kb7 11 = .ok (.istore_n 2,1) from by decide +kernel) rfl rfl rfl rfl rfl rfl
theorem m7_11r : M7 11 [l0,l1,.val (.ref q)] ((.int v)::st) H Q = M7 12 [l0,l1,.val (.int v)] st H Q:=w_st (i:=2) (p:=isI) (show decode kb7 11 = .ok (.istore_n 2,1) from by decide +kernel) rfl rfl rfl rfl rfl rfl
theorem m7_11g (h : okS l2) : M7 11 [l0,l1,l2] ((.int v)::st) H Q = M7 12 [l0,l1,.val (.int v)] st H Q:=by rcases h with rfl | ⟨z,rfl⟩ <;> first | exact m7_11u | exact m7_11i
theorem m7_12 : M7 12 [l0,l1,.val (.int v)] st H Q = M7 13 [l0,l1,.val (.int v)] (.int v::st) H Q:=w_x (show decode kb7 12 = .ok (.iload_n 2,1) from by decide +kernel) rfl
theorem m7_13 : M7 13 [.val (.ref r),l1,l2] st H Q = M7 14 [.val (.ref r),l1,l2] (.ref r::st) H Q:=w_x (show decode kb7 13 = .ok (.aload_n 0,1) from by decide +kernel) rfl
theorem m7_14 : M7 14 ls (.ref (b + 1)::st) (put (b + 1) pre s A post) Q = M7 17 ls (.int (s 0)::st) (put (b + 1) pre s A post) Q:=w_get (show decode kb7 14 = .ok (.getfield 65,3) from by decide +kernel) gf_65 put_o rfl
theorem m7_17 : M7 17 ls (.int y::.int x::st) H Q = if x < y then M7 20 ls st H Q else M7 38 ls st H Q:=w_icmpN (show decode kb7 17 = .ok (.if_icmp .ge 21,3) from by decide +kernel) (i_ge x y) rfl
theorem m7_20 : M7 20 [.val (.ref r),l1,l2] st H Q = M7 21 [.val (.ref r),l1,l2] (.ref r::st) H Q:=w_x (show decode kb7 20 = .ok (.aload_n 0,1) from by decide +kernel) rfl
theorem m7_21 : M7 21 ls (.ref (b + 1)::st) (put (b + 1) pre s A post) Q = M7 24 ls (.ref ((b + 1) + 12)::st) (put (b + 1) pre s A post) Q:=w_get (show decode kb7 21 = .ok (.getfield 43,3) from by decide +kernel) gf_43 put_o rfl
theorem m7_24 : M7 24 [l0,.val (.int v),l2] st H Q = M7 25 [l0,.val (.int v),l2] (.int v::st) H Q:=w_x (show decode kb7 24 = .ok (.iload_n 1,1) from by decide +kernel) rfl
theorem m7_25 : M7 25 ls st H Q = M7 27 ls (.int 32::st) H Q:=w_con (show decode kb7 25 = .ok (.bipush 32,2) from by decide +kernel) rfl (by decide)
theorem m7_27 : M7 27 ls (.int y::.int x::st) H Q = M7 28 ls (.int (x * y)::st) H Q:=w_x (show decode kb7 27 = .ok (.imul,1) from by decide +kernel) rfl
theorem m7_28 : M7 28 [l0,l1,.val (.int v)] st H Q = M7 29 [l0,l1,.val (.int v)] (.int v::st) H Q:=w_x (show decode kb7 28 = .ok (.iload_n 2,1) from by decide +kernel) rfl
theorem m7_29 : M7 29 ls (.int y::.int x::st) H Q = M7 30 ls (.int (x + y)::st) H Q:=w_x (show decode kb7 29 = .ok (.iadd,1) from by decide +kernel) rfl
theorem m7_30 : M7 30 ls st H Q = M7 31 ls (.int 0::st) H Q:=w_con (show decode kb7 30 = .ok (.iconst 0,1) from by decide +kernel) rfl (by decide)
theorem m7_31  : M7 31 ls (.int v::.int j::.ref ((b + 1) + 12)::st) (put (b + 1) pre s A post) Q = (inB j (A 11)∧M7 32 ls st (put (b + 1) pre s (ou A 11 (setA (A 11) j (nar .boolean v))) post) Q):=w_ist (show decode kb7 31 = .ok (.bastore,1) from by decide +kernel) rfl put_a11 (by omega) rfl put_w11
theorem m7_32 : M7 32 [l0,l1,.val (.int v)] st H Q = M7 35 [l0,l1,.val (.int (v + 1))] st H Q:=w_iinc (show decode kb7 32 = .ok (.iinc 2 1,3) from by decide +kernel) rfl (by decide) rfl
theorem m7_35 : M7 35 ls st H Q = M7 12 ls st H Q:=w_x (show decode kb7 35 = .ok (.goto (-23),3) from by decide +kernel) rfl
theorem m7_38 : M7 38 [l0,.val (.int v),l2] st H Q = M7 41 [l0,.val (.int (v + 1)),l2] st H Q:=w_iinc (show decode kb7 38 = .ok (.iinc 1 1,3) from by decide +kernel) rfl (by decide) rfl
theorem m7_41 : M7 41 ls st H Q = M7 2 ls st H Q:=w_x (show decode kb7 41 = .ok (.goto (-39),3) from by decide +kernel) rfl
theorem m7_44 : M7 44 ls st H Q = M7 45 ls (.int 0::st) H Q:=w_con (show decode kb7 44 = .ok (.iconst 0,1) from by decide +kernel) rfl (by decide)
theorem m7_45i : M7 45 [l0,.val (.int z),l2] ((.int v)::st) H Q = M7 46 [l0,.val (.int v),l2] st H Q:=w_st (i:=1) (p:=isI) (show decode kb7 45 = .ok (.istore_n 1,1) from by decide +kernel) rfl rfl rfl rfl rfl rfl
theorem m7_46 : M7 46 [l0,.val (.int v),l2] st H Q = M7 47 [l0,.val (.int v),l2] (.int v::st) H Q:=w_x (show decode kb7 46 = .ok (.iload_n 1,1) from by decide +kernel) rfl
theorem m7_47 : M7 47 [.val (.ref r),l1,l2] st H Q = M7 48 [.val (.ref r),l1,l2] (.ref r::st) H Q:=w_x (show decode kb7 47 = .ok (.aload_n 0,1) from by decide +kernel) rfl
theorem m7_48 : M7 48 ls (.ref (b + 1)::st) (put (b + 1) pre s A post) Q = M7 51 ls (.int (s 0)::st) (put (b + 1) pre s A post) Q:=w_get (show decode kb7 48 = .ok (.getfield 65,3) from by decide +kernel) gf_65 put_o rfl
theorem m7_51 : M7 51 ls (.int y::.int x::st) H Q = if x < y then M7 54 ls st H Q else M7 88 ls st H Q:=w_icmpN (show decode kb7 51 = .ok (.if_icmp .ge 37,3) from by decide +kernel) (i_ge x y) rfl
theorem m7_54 : M7 54 [l0,.val (.int v),l2] st H Q = M7 55 [l0,.val (.int v),l2] (.int v::st) H Q:=w_x (show decode kb7 54 = .ok (.iload_n 1,1) from by decide +kernel) rfl
theorem m7_55 : M7 55 ls st H Q = M7 57 ls (.int 32::st) H Q:=w_con (show decode kb7 55 = .ok (.bipush 32,2) from by decide +kernel) rfl (by decide)
theorem m7_57 : M7 57 ls (.int y::.int x::st) H Q = M7 58 ls (.int (x * y)::st) H Q:=w_x (show decode kb7 57 = .ok (.imul,1) from by decide +kernel) rfl
theorem m7_58 : M7 58 [l0,.val (.int v),l2] st H Q = M7 59 [l0,.val (.int v),l2] (.int v::st) H Q:=w_x (show decode kb7 58 = .ok (.iload_n 1,1) from by decide +kernel) rfl
theorem m7_59 : M7 59 ls (.int y::.int x::st) H Q = M7 60 ls (.int (x + y)::st) H Q:=w_x (show decode kb7 59 = .ok (.iadd,1) from by decide +kernel) rfl
theorem m7_60u : M7 60 [l0,l1,.unset] ((.int v)::st) H Q = M7 61 [l0,l1,.val (.int v)] st H Q:=w_st (i:=2) (p:=isI) (show decode kb7 60 = .ok (.istore_n 2,1) from by decide +kernel) rfl rfl rfl rfl rfl rfl
theorem m7_60i : M7 60 [l0,l1,.val (.int z)] ((.int v)::st) H Q = M7 61 [l0,l1,.val (.int v)] st H Q:=w_st (i:=2) (p:=isI) (show decode kb7 60 = .ok (.istore_n 2,1) from by decide +kernel) rfl rfl rfl rfl rfl rfl
theorem m7_60r : M7 60 [l0,l1,.val (.ref q)] ((.int v)::st) H Q = M7 61 [l0,l1,.val (.int v)] st H Q:=w_st (i:=2) (p:=isI) (show decode kb7 60 = .ok (.istore_n 2,1) from by decide +kernel) rfl rfl rfl rfl rfl rfl
theorem m7_60g (h : okS l2) : M7 60 [l0,l1,l2] ((.int v)::st) H Q = M7 61 [l0,l1,.val (.int v)] st H Q:=by rcases h with rfl | ⟨z,rfl⟩ <;> first | exact m7_60u | exact m7_60i
theorem m7_61 : M7 61 [.val (.ref r),l1,l2] st H Q = M7 62 [.val (.ref r),l1,l2] (.ref r::st) H Q:=w_x (show decode kb7 61 = .ok (.aload_n 0,1) from by decide +kernel) rfl
theorem m7_62 : M7 62 ls (.ref (b + 1)::st) (put (b + 1) pre s A post) Q = M7 65 ls (.ref ((b + 1) + 12)::st) (put (b + 1) pre s A post) Q:=w_get (show decode kb7 62 = .ok (.getfield 43,3) from by decide +kernel) gf_43 put_o rfl
theorem m7_65 : M7 65 [l0,l1,.val (.int v)] st H Q = M7 66 [l0,l1,.val (.int v)] (.int v::st) H Q:=w_x (show decode kb7 65 = .ok (.iload_n 2,1) from by decide +kernel) rfl
theorem m7_66 : M7 66 ls st H Q = M7 67 ls (.int 1::st) H Q:=w_con (show decode kb7 66 = .ok (.iconst 1,1) from by decide +kernel) rfl (by decide)
theorem m7_67  : M7 67 ls (.int v::.int j::.ref ((b + 1) + 12)::st) (put (b + 1) pre s A post) Q = (inB j (A 11)∧M7 68 ls st (put (b + 1) pre s (ou A 11 (setA (A 11) j (nar .boolean v))) post) Q):=w_ist (show decode kb7 67 = .ok (.bastore,1) from by decide +kernel) rfl put_a11 (by omega) rfl put_w11
theorem m7_68 : M7 68 [.val (.ref r),l1,l2] st H Q = M7 69 [.val (.ref r),l1,l2] (.ref r::st) H Q:=w_x (show decode kb7 68 = .ok (.aload_n 0,1) from by decide +kernel) rfl
theorem m7_69 : M7 69 ls (.ref (b + 1)::st) (put (b + 1) pre s A post) Q = M7 72 ls (.ref ((b + 1) + 10)::st) (put (b + 1) pre s A post) Q:=w_get (show decode kb7 69 = .ok (.getfield 37,3) from by decide +kernel) gf_37 put_o rfl
theorem m7_72 : M7 72 [l0,l1,.val (.int v)] st H Q = M7 73 [l0,l1,.val (.int v)] (.int v::st) H Q:=w_x (show decode kb7 72 = .ok (.iload_n 2,1) from by decide +kernel) rfl
theorem m7_73 : M7 73 ls st H Q = M7 74 ls (.int 0::st) H Q:=w_con (show decode kb7 73 = .ok (.iconst 0,1) from by decide +kernel) rfl (by decide)
theorem m7_74  : M7 74 ls (.int v::.int j::.ref ((b + 1) + 10)::st) (put (b + 1) pre s A post) Q = (inB j (A 9)∧M7 75 ls st (put (b + 1) pre s (ou A 9 (setA (A 9) j v)) post) Q):=w_ist (show decode kb7 74 = .ok (.iastore,1) from by decide +kernel) rfl put_a9 (by omega) rfl put_w9
theorem m7_75 : M7 75 [.val (.ref r),l1,l2] st H Q = M7 76 [.val (.ref r),l1,l2] (.ref r::st) H Q:=w_x (show decode kb7 75 = .ok (.aload_n 0,1) from by decide +kernel) rfl
theorem m7_76 : M7 76 ls (.ref (b + 1)::st) (put (b + 1) pre s A post) Q = M7 79 ls (.ref ((b + 1) + 11)::st) (put (b + 1) pre s A post) Q:=w_get (show decode kb7 76 = .ok (.getfield 40,3) from by decide +kernel) gf_40 put_o rfl
theorem m7_79 : M7 79 [l0,l1,.val (.int v)] st H Q = M7 80 [l0,l1,.val (.int v)] (.int v::st) H Q:=w_x (show decode kb7 79 = .ok (.iload_n 2,1) from by decide +kernel) rfl
theorem m7_80 : M7 80 ls st H Q = M7 81 ls (.int 0::st) H Q:=w_con (show decode kb7 80 = .ok (.iconst 0,1) from by decide +kernel) rfl (by decide)
theorem m7_81  : M7 81 ls (.int v::.int j::.ref ((b + 1) + 11)::st) (put (b + 1) pre s A post) Q = (inB j (A 10)∧M7 82 ls st (put (b + 1) pre s (ou A 10 (setA (A 10) j v)) post) Q):=w_ist (show decode kb7 81 = .ok (.iastore,1) from by decide +kernel) rfl put_a10 (by omega) rfl put_w10
theorem m7_82 : M7 82 [l0,.val (.int v),l2] st H Q = M7 85 [l0,.val (.int (v + 1)),l2] st H Q:=w_iinc (show decode kb7 82 = .ok (.iinc 1 1,3) from by decide +kernel) rfl (by decide) rfl
theorem m7_85 : M7 85 ls st H Q = M7 46 ls st H Q:=w_x (show decode kb7 85 = .ok (.goto (-39),3) from by decide +kernel) rfl
theorem m7_88 : M7 88 ls st H Q = M7 89 ls (.int 0::st) H Q:=w_con (show decode kb7 88 = .ok (.iconst 0,1) from by decide +kernel) rfl (by decide)
theorem m7_89i : M7 89 [l0,.val (.int z),l2] ((.int v)::st) H Q = M7 90 [l0,.val (.int v),l2] st H Q:=w_st (i:=1) (p:=isI) (show decode kb7 89 = .ok (.istore_n 1,1) from by decide +kernel) rfl rfl rfl rfl rfl rfl
theorem m7_90 : M7 90 [l0,.val (.int v),l2] st H Q = M7 91 [l0,.val (.int v),l2] (.int v::st) H Q:=w_x (show decode kb7 90 = .ok (.iload_n 1,1) from by decide +kernel) rfl
theorem m7_91 : M7 91 [.val (.ref r),l1,l2] st H Q = M7 92 [.val (.ref r),l1,l2] (.ref r::st) H Q:=w_x (show decode kb7 91 = .ok (.aload_n 0,1) from by decide +kernel) rfl
theorem m7_92 : M7 92 ls (.ref (b + 1)::st) (put (b + 1) pre s A post) Q = M7 95 ls (.int (s 1)::st) (put (b + 1) pre s A post) Q:=w_get (show decode kb7 92 = .ok (.getfield 69,3) from by decide +kernel) gf_69 put_o rfl
theorem m7_95 : M7 95 ls (.int y::.int x::st) H Q = if x < y then M7 98 ls st H Q else M7 141 ls st H Q:=w_icmpN (show decode kb7 95 = .ok (.if_icmp .ge 46,3) from by decide +kernel) (i_ge x y) rfl
theorem m7_98 : M7 98 [.val (.ref r),l1,l2] st H Q = M7 99 [.val (.ref r),l1,l2] (.ref r::st) H Q:=w_x (show decode kb7 98 = .ok (.aload_n 0,1) from by decide +kernel) rfl
theorem m7_99 : M7 99 [.val (.ref r),l1,l2] st H Q = M7 100 [.val (.ref r),l1,l2] (.ref r::st) H Q:=w_x (show decode kb7 99 = .ok (.aload_n 0,1) from by decide +kernel) rfl
theorem m7_100 : M7 100 ls (.ref (b + 1)::st) (put (b + 1) pre s A post) Q = M7 103 ls (.ref ((b + 1) + 4)::st) (put (b + 1) pre s A post) Q:=w_get (show decode kb7 100 = .ok (.getfield 19,3) from by decide +kernel) gf_19 put_o rfl
theorem m7_103 : M7 103 [l0,.val (.int v),l2] st H Q = M7 104 [l0,.val (.int v),l2] (.int v::st) H Q:=w_x (show decode kb7 103 = .ok (.iload_n 1,1) from by decide +kernel) rfl
theorem m7_104  : M7 104 ls (.int j::.ref ((b + 1) + 4)::st) (put (b + 1) pre s A post) Q = (inB j (A 3)∧M7 105 ls (.int (getA (A 3) j)::st) (put (b + 1) pre s A post) Q):=w_ild (show decode kb7 104 = .ok (.iaload,1) from by decide +kernel) rfl put_a3
theorem m7_105 : M7 105 ls st H Q = M7 107 ls (.int 32::st) H Q:=w_con (show decode kb7 105 = .ok (.bipush 32,2) from by decide +kernel) rfl (by decide)
theorem m7_107 : M7 107 ls (.int y::.int x::st) H Q = M7 108 ls (.int (x * y)::st) H Q:=w_x (show decode kb7 107 = .ok (.imul,1) from by decide +kernel) rfl
theorem m7_108 : M7 108 [.val (.ref r),l1,l2] st H Q = M7 109 [.val (.ref r),l1,l2] (.ref r::st) H Q:=w_x (show decode kb7 108 = .ok (.aload_n 0,1) from by decide +kernel) rfl
theorem m7_109 : M7 109 ls (.ref (b + 1)::st) (put (b + 1) pre s A post) Q = M7 112 ls (.ref ((b + 1) + 5)::st) (put (b + 1) pre s A post) Q:=w_get (show decode kb7 109 = .ok (.getfield 22,3) from by decide +kernel) gf_22 put_o rfl
theorem m7_112 : M7 112 [l0,.val (.int v),l2] st H Q = M7 113 [l0,.val (.int v),l2] (.int v::st) H Q:=w_x (show decode kb7 112 = .ok (.iload_n 1,1) from by decide +kernel) rfl
theorem m7_113  : M7 113 ls (.int j::.ref ((b + 1) + 5)::st) (put (b + 1) pre s A post) Q = (inB j (A 4)∧M7 114 ls (.int (getA (A 4) j)::st) (put (b + 1) pre s A post) Q):=w_ild (show decode kb7 113 = .ok (.iaload,1) from by decide +kernel) rfl put_a4
theorem m7_114 : M7 114 ls (.int y::.int x::st) H Q = M7 115 ls (.int (x + y)::st) H Q:=w_x (show decode kb7 114 = .ok (.iadd,1) from by decide +kernel) rfl
theorem m7_115 : M7 115 [.val (.ref r),l1,l2] st H Q = M7 116 [.val (.ref r),l1,l2] (.ref r::st) H Q:=w_x (show decode kb7 115 = .ok (.aload_n 0,1) from by decide +kernel) rfl
theorem m7_116 : M7 116 ls (.ref (b + 1)::st) (put (b + 1) pre s A post) Q = M7 119 ls (.ref ((b + 1) + 6)::st) (put (b + 1) pre s A post) Q:=w_get (show decode kb7 116 = .ok (.getfield 25,3) from by decide +kernel) gf_25 put_o rfl
theorem m7_119 : M7 119 [l0,.val (.int v),l2] st H Q = M7 120 [l0,.val (.int v),l2] (.int v::st) H Q:=w_x (show decode kb7 119 = .ok (.iload_n 1,1) from by decide +kernel) rfl
theorem m7_120  : M7 120 ls (.int j::.ref ((b + 1) + 6)::st) (put (b + 1) pre s A post) Q = (inB j (A 5)∧M7 121 ls (.int (getA (A 5) j)::st) (put (b + 1) pre s A post) Q):=w_ild (show decode kb7 120 = .ok (.iaload,1) from by decide +kernel) rfl put_a5
theorem m7_121 : M7 121 [.val (.ref r),l1,l2] st H Q = M7 122 [.val (.ref r),l1,l2] (.ref r::st) H Q:=w_x (show decode kb7 121 = .ok (.aload_n 0,1) from by decide +kernel) rfl
theorem m7_122 : M7 122 ls (.ref (b + 1)::st) (put (b + 1) pre s A post) Q = M7 125 ls (.ref ((b + 1) + 2)::st) (put (b + 1) pre s A post) Q:=w_get (show decode kb7 122 = .ok (.getfield 13,3) from by decide +kernel) gf_13 put_o rfl
theorem m7_125 : M7 125 [.val (.ref r),l1,l2] st H Q = M7 126 [.val (.ref r),l1,l2] (.ref r::st) H Q:=w_x (show decode kb7 125 = .ok (.aload_n 0,1) from by decide +kernel) rfl
theorem m7_126 : M7 126 ls (.ref (b + 1)::st) (put (b + 1) pre s A post) Q = M7 129 ls (.ref ((b + 1) + 4)::st) (put (b + 1) pre s A post) Q:=w_get (show decode kb7 126 = .ok (.getfield 19,3) from by decide +kernel) gf_19 put_o rfl
theorem m7_129 : M7 129 [l0,.val (.int v),l2] st H Q = M7 130 [l0,.val (.int v),l2] (.int v::st) H Q:=w_x (show decode kb7 129 = .ok (.iload_n 1,1) from by decide +kernel) rfl
theorem m7_130  : M7 130 ls (.int j::.ref ((b + 1) + 4)::st) (put (b + 1) pre s A post) Q = (inB j (A 3)∧M7 131 ls (.int (getA (A 3) j)::st) (put (b + 1) pre s A post) Q):=w_ild (show decode kb7 130 = .ok (.iaload,1) from by decide +kernel) rfl put_a3
theorem m7_131  : M7 131 ls (.int j::.ref ((b + 1) + 2)::st) (put (b + 1) pre s A post) Q = (inB j (A 1)∧M7 132 ls (.int (getA (A 1) j)::st) (put (b + 1) pre s A post) Q):=w_ild (show decode kb7 131 = .ok (.iaload,1) from by decide +kernel) rfl put_a1
theorem cr7_124 : vR tables_1 dn y7 124 = some (true,y9,prog_1_method_22_code,4,none,3,17):=pR_of (cR_of (by decide +kernel) rc_9 dn_9 dn_7 (sig:=⟨[.int,.int,.int],none⟩) (by decide +kernel) (by decide +kernel) rfl rfl) (by decide +kernel) (by decide +kernel)
theorem m7_132 (a0 : Int32) (a1 : Int32) (a2 : Int32) : M7 132 ls [.int a2,.int a1,.int a0,.ref (b + 1)] (put (b + 1) pre s A post) Q = M9 0 [.val (.ref (b + 1)),.val (.int a0),.val (.int a1),.val (.int a2)] [] (put (b + 1) pre s A post) (fun v H1 => M7 135 ls (v.toList ++ []) H1 Q):=w_virt (as:=[.int a2,.int a1,.int a0]) (rest:=[]) (a:=(b + 1)) (show decode kb7 132 = .ok (.invokevirtual 124,3) from by decide +kernel) cr7_124 put_o rfl rfl (Nat.le_of_ble_eq_true rfl) (by show 4≤4; omega) rfl
theorem m7_135 : M7 135 [l0,.val (.int v),l2] st H Q = M7 138 [l0,.val (.int (v + 1)),l2] st H Q:=w_iinc (show decode kb7 135 = .ok (.iinc 1 1,3) from by decide +kernel) rfl (by decide) rfl
theorem m7_138 : M7 138 ls st H Q = M7 90 ls st H Q:=w_x (show decode kb7 138 = .ok (.goto (-48),3) from by decide +kernel) rfl
theorem m7_141 : M7 141 ls st H Q = M7 142 ls (.int 0::st) H Q:=w_con (show decode kb7 141 = .ok (.iconst 0,1) from by decide +kernel) rfl (by decide)
theorem m7_142i : M7 142 [l0,.val (.int z),l2] ((.int v)::st) H Q = M7 143 [l0,.val (.int v),l2] st H Q:=w_st (i:=1) (p:=isI) (show decode kb7 142 = .ok (.istore_n 1,1) from by decide +kernel) rfl rfl rfl rfl rfl rfl
theorem m7_143 : M7 143 [l0,.val (.int v),l2] st H Q = M7 144 [l0,.val (.int v),l2] (.int v::st) H Q:=w_x (show decode kb7 143 = .ok (.iload_n 1,1) from by decide +kernel) rfl
theorem m7_144 : M7 144 [.val (.ref r),l1,l2] st H Q = M7 145 [.val (.ref r),l1,l2] (.ref r::st) H Q:=w_x (show decode kb7 144 = .ok (.aload_n 0,1) from by decide +kernel) rfl
theorem m7_145 : M7 145 ls (.ref (b + 1)::st) (put (b + 1) pre s A post) Q = M7 148 ls (.int (s 0)::st) (put (b + 1) pre s A post) Q:=w_get (show decode kb7 145 = .ok (.getfield 65,3) from by decide +kernel) gf_65 put_o rfl
theorem m7_148 : M7 148 ls (.int y::.int x::st) H Q = if x < y then M7 151 ls st H Q else M7 162 ls st H Q:=w_icmpN (show decode kb7 148 = .ok (.if_icmp .ge 14,3) from by decide +kernel) (i_ge x y) rfl
theorem m7_151 : M7 151 [.val (.ref r),l1,l2] st H Q = M7 152 [.val (.ref r),l1,l2] (.ref r::st) H Q:=w_x (show decode kb7 151 = .ok (.aload_n 0,1) from by decide +kernel) rfl
theorem m7_152 : M7 152 [l0,.val (.int v),l2] st H Q = M7 153 [l0,.val (.int v),l2] (.int v::st) H Q:=w_x (show decode kb7 152 = .ok (.iload_n 1,1) from by decide +kernel) rfl
theorem cr7_128 : vR tables_1 dn y7 128 = some (true,y8,prog_1_method_24_code,6,none,1,0):=pR_of (cR_of (by decide +kernel) rc_8 dn_8 dn_7 (sig:=⟨[.int],none⟩) (by decide +kernel) (by decide +kernel) rfl rfl) (by decide +kernel) (by decide +kernel)
theorem m7_153 (a0 : Int32) : M7 153 ls [.int a0,.ref (b + 1)] (put (b + 1) pre s A post) Q = M8 0 [.val (.ref (b + 1)),.val (.int a0),.unset,.unset,.unset,.unset] [] (put (b + 1) pre s A post) (fun v H1 => M7 156 ls (v.toList ++ []) H1 Q):=w_virt (as:=[.int a0]) (rest:=[]) (a:=(b + 1)) (show decode kb7 153 = .ok (.invokevirtual 128,3) from by decide +kernel) cr7_128 put_o rfl rfl (Nat.le_of_ble_eq_true rfl) (by show 2≤6; omega) rfl
theorem m7_156 : M7 156 [l0,.val (.int v),l2] st H Q = M7 159 [l0,.val (.int (v + 1)),l2] st H Q:=w_iinc (show decode kb7 156 = .ok (.iinc 1 1,3) from by decide +kernel) rfl (by decide) rfl
theorem m7_159 : M7 159 ls st H Q = M7 143 ls st H Q:=w_x (show decode kb7 159 = .ok (.goto (-16),3) from by decide +kernel) rfl
theorem m7_162 : M7 162 ls [] H Q = Q none H:=w_vret (show decode kb7 162 = .ok (.return_,1) from by decide +kernel) rfl
theorem m8_0 : M8 0 ls st H Q = M8 1 ls (.int 0::st) H Q:=w_con (show decode kb8 0 = .ok (.iconst 0,1) from by decide +kernel) rfl (by decide)
theorem m8_1u : M8 1 [l0,l1,.unset,l3,l4,l5] ((.int v)::st) H Q = M8 2 [l0,l1,.val (.int v),l3,l4,l5] st H Q:=w_st (i:=2) (p:=isI) (show decode kb8 1 = .ok (.istore_n 2,1) from by decide +kernel) rfl rfl rfl rfl rfl rfl
theorem m8_2 : M8 2 [l0,l1,.val (.int v),l3,l4,l5] st H Q = M8 3 [l0,l1,.val (.int v),l3,l4,l5] (.int v::st) H Q:=w_x (show decode kb8 2 = .ok (.iload_n 2,1) from by decide +kernel) rfl
theorem m8_3 : M8 3 [.val (.ref r),l1,l2,l3,l4,l5] st H Q = M8 4 [.val (.ref r),l1,l2,l3,l4,l5] (.ref r::st) H Q:=w_x (show decode kb8 3 = .ok (.aload_n 0,1) from by decide +kernel) rfl
theorem m8_4 : M8 4 ls (.ref (b + 1)::st) (put (b + 1) pre s A post) Q = M8 7 ls (.int (s 0)::st) (put (b + 1) pre s A post) Q:=w_get (show decode kb8 4 = .ok (.getfield 65,3) from by decide +kernel) gf_65 put_o rfl
theorem m8_7 : M8 7 ls (.int y::.int x::st) H Q = if x < y then M8 10 ls st H Q else M8 111 ls st H Q:=w_icmpN (show decode kb8 7 = .ok (.if_icmp .ge 104,3) from by decide +kernel) (i_ge x y) rfl
theorem m8_10 : M8 10 [l0,l1,.val (.int v),l3,l4,l5] st H Q = M8 11 [l0,l1,.val (.int v),l3,l4,l5] (.int v::st) H Q:=w_x (show decode kb8 10 = .ok (.iload_n 2,1) from by decide +kernel) rfl
theorem m8_11 : M8 11 ls st H Q = M8 13 ls (.int 32::st) H Q:=w_con (show decode kb8 11 = .ok (.bipush 32,2) from by decide +kernel) rfl (by decide)
theorem m8_13 : M8 13 ls (.int y::.int x::st) H Q = M8 14 ls (.int (x * y)::st) H Q:=w_x (show decode kb8 13 = .ok (.imul,1) from by decide +kernel) rfl
theorem m8_14 : M8 14 [l0,.val (.int v),l2,l3,l4,l5] st H Q = M8 15 [l0,.val (.int v),l2,l3,l4,l5] (.int v::st) H Q:=w_x (show decode kb8 14 = .ok (.iload_n 1,1) from by decide +kernel) rfl
theorem m8_15 : M8 15 ls (.int y::.int x::st) H Q = M8 16 ls (.int (x + y)::st) H Q:=w_x (show decode kb8 15 = .ok (.iadd,1) from by decide +kernel) rfl
theorem m8_16u : M8 16 [l0,l1,l2,.unset,l4,l5] ((.int v)::st) H Q = M8 17 [l0,l1,l2,.val (.int v),l4,l5] st H Q:=w_st (i:=3) (p:=isI) (show decode kb8 16 = .ok (.istore_n 3,1) from by decide +kernel) rfl rfl rfl rfl rfl rfl
theorem m8_16i : M8 16 [l0,l1,l2,.val (.int z),l4,l5] ((.int v)::st) H Q = M8 17 [l0,l1,l2,.val (.int v),l4,l5] st H Q:=w_st (i:=3) (p:=isI) (show decode kb8 16 = .ok (.istore_n 3,1) from by decide +kernel) rfl rfl rfl rfl rfl rfl
theorem m8_16r : M8 16 [l0,l1,l2,.val (.ref q),l4,l5] ((.int v)::st) H Q = M8 17 [l0,l1,l2,.val (.int v),l4,l5] st H Q:=w_st (i:=3) (p:=isI) (show decode kb8 16 = .ok (.istore_n 3,1) from by decide +kernel) rfl rfl rfl rfl rfl rfl
theorem m8_16g (h : okS l3) : M8 16 [l0,l1,l2,l3,l4,l5] ((.int v)::st) H Q = M8 17 [l0,l1,l2,.val (.int v),l4,l5] st H Q:=by rcases h with rfl | ⟨z,rfl⟩ <;> first | exact m8_16u | exact m8_16i
theorem m8_17 : M8 17 [.val (.ref r),l1,l2,l3,l4,l5] st H Q = M8 18 [.val (.ref r),l1,l2,l3,l4,l5] (.ref r::st) H Q:=w_x (show decode kb8 17 = .ok (.aload_n 0,1) from by decide +kernel) rfl
theorem m8_18 : M8 18 ls (.ref (b + 1)::st) (put (b + 1) pre s A post) Q = M8 21 ls (.ref ((b + 1) + 12)::st) (put (b + 1) pre s A post) Q:=w_get (show decode kb8 18 = .ok (.getfield 43,3) from by decide +kernel) gf_43 put_o rfl
theorem m8_21 : M8 21 [l0,l1,l2,.val (.int v),l4,l5] st H Q = M8 22 [l0,l1,l2,.val (.int v),l4,l5] (.int v::st) H Q:=w_x (show decode kb8 21 = .ok (.iload_n 3,1) from by decide +kernel) rfl
theorem m8_22  : M8 22 ls (.int j::.ref ((b + 1) + 12)::st) (put (b + 1) pre s A post) Q = (inB j (A 11)∧M8 23 ls (.int (getA (A 11) j)::st) (put (b + 1) pre s A post) Q):=w_ild (show decode kb8 22 = .ok (.baload,1) from by decide +kernel) rfl put_a11
theorem m8_23 : M8 23 ls (.int x::st) H Q = if x = 0 then M8 26 ls st H Q else M8 29 ls st H Q:=w_ifN (show decode kb8 23 = .ok (.ifCond .ne 6,3) from by decide +kernel) (z_ne x) rfl
theorem m8_26 : M8 26 ls st H Q = M8 105 ls st H Q:=w_x (show decode kb8 26 = .ok (.goto 79,3) from by decide +kernel) rfl
theorem m8_29 : M8 29 ls st H Q = M8 30 ls (.int 0::st) H Q:=w_con (show decode kb8 29 = .ok (.iconst 0,1) from by decide +kernel) rfl (by decide)
theorem m8_30u : M8 30 [l0,l1,l2,l3,.unset,l5] ((.int v)::st) H Q = M8 32 [l0,l1,l2,l3,.val (.int v),l5] st H Q:=w_st (i:=4) (p:=isI) (show decode kb8 30 = .ok (.istore 4,2) from by decide +kernel) rfl rfl rfl rfl rfl rfl
theorem m8_30i : M8 30 [l0,l1,l2,l3,.val (.int z),l5] ((.int v)::st) H Q = M8 32 [l0,l1,l2,l3,.val (.int v),l5] st H Q:=w_st (i:=4) (p:=isI) (show decode kb8 30 = .ok (.istore 4,2) from by decide +kernel) rfl rfl rfl rfl rfl rfl
theorem m8_30r : M8 30 [l0,l1,l2,l3,.val (.ref q),l5] ((.int v)::st) H Q = M8 32 [l0,l1,l2,l3,.val (.int v),l5] st H Q:=w_st (i:=4) (p:=isI) (show decode kb8 30 = .ok (.istore 4,2) from by decide +kernel) rfl rfl rfl rfl rfl rfl
theorem m8_30g (h : okS l4) : M8 30 [l0,l1,l2,l3,l4,l5] ((.int v)::st) H Q = M8 32 [l0,l1,l2,l3,.val (.int v),l5] st H Q:=by rcases h with rfl | ⟨z,rfl⟩ <;> first | exact m8_30u | exact m8_30i
theorem m8_32 : M8 32 [l0,l1,l2,l3,.val (.int v),l5] st H Q = M8 34 [l0,l1,l2,l3,.val (.int v),l5] (.int v::st) H Q:=w_x (show decode kb8 32 = .ok (.iload 4,2) from by decide +kernel) rfl
theorem m8_34 : M8 34 [.val (.ref r),l1,l2,l3,l4,l5] st H Q = M8 35 [.val (.ref r),l1,l2,l3,l4,l5] (.ref r::st) H Q:=w_x (show decode kb8 34 = .ok (.aload_n 0,1) from by decide +kernel) rfl
theorem m8_35 : M8 35 ls (.ref (b + 1)::st) (put (b + 1) pre s A post) Q = M8 38 ls (.int (s 0)::st) (put (b + 1) pre s A post) Q:=w_get (show decode kb8 35 = .ok (.getfield 65,3) from by decide +kernel) gf_65 put_o rfl
theorem m8_38 : M8 38 ls (.int y::.int x::st) H Q = if x < y then M8 41 ls st H Q else M8 105 ls st H Q:=w_icmpN (show decode kb8 38 = .ok (.if_icmp .ge 67,3) from by decide +kernel) (i_ge x y) rfl
theorem m8_41 : M8 41 [l0,.val (.int v),l2,l3,l4,l5] st H Q = M8 42 [l0,.val (.int v),l2,l3,l4,l5] (.int v::st) H Q:=w_x (show decode kb8 41 = .ok (.iload_n 1,1) from by decide +kernel) rfl
theorem m8_42 : M8 42 ls st H Q = M8 44 ls (.int 32::st) H Q:=w_con (show decode kb8 42 = .ok (.bipush 32,2) from by decide +kernel) rfl (by decide)
theorem m8_44 : M8 44 ls (.int y::.int x::st) H Q = M8 45 ls (.int (x * y)::st) H Q:=w_x (show decode kb8 44 = .ok (.imul,1) from by decide +kernel) rfl
theorem m8_45 : M8 45 [l0,l1,l2,l3,.val (.int v),l5] st H Q = M8 47 [l0,l1,l2,l3,.val (.int v),l5] (.int v::st) H Q:=w_x (show decode kb8 45 = .ok (.iload 4,2) from by decide +kernel) rfl
theorem m8_47 : M8 47 ls (.int y::.int x::st) H Q = M8 48 ls (.int (x + y)::st) H Q:=w_x (show decode kb8 47 = .ok (.iadd,1) from by decide +kernel) rfl
theorem m8_48u : M8 48 [l0,l1,l2,l3,l4,.unset] ((.int v)::st) H Q = M8 50 [l0,l1,l2,l3,l4,.val (.int v)] st H Q:=w_st (i:=5) (p:=isI) (show decode kb8 48 = .ok (.istore 5,2) from by decide +kernel) rfl rfl rfl rfl rfl rfl
theorem m8_48i : M8 48 [l0,l1,l2,l3,l4,.val (.int z)] ((.int v)::st) H Q = M8 50 [l0,l1,l2,l3,l4,.val (.int v)] st H Q:=w_st (i:=5) (p:=isI) (show decode kb8 48 = .ok (.istore 5,2) from by decide +kernel) rfl rfl rfl rfl rfl rfl
theorem m8_48r : M8 48 [l0,l1,l2,l3,l4,.val (.ref q)] ((.int v)::st) H Q = M8 50 [l0,l1,l2,l3,l4,.val (.int v)] st H Q:=w_st (i:=5) (p:=isI) (show decode kb8 48 = .ok (.istore 5,2) from by decide +kernel) rfl rfl rfl rfl rfl rfl
theorem m8_48g (h : okS l5) : M8 48 [l0,l1,l2,l3,l4,l5] ((.int v)::st) H Q = M8 50 [l0,l1,l2,l3,l4,.val (.int v)] st H Q:=by rcases h with rfl | ⟨z,rfl⟩ <;> first | exact m8_48u | exact m8_48i
theorem m8_50 : M8 50 [.val (.ref r),l1,l2,l3,l4,l5] st H Q = M8 51 [.val (.ref r),l1,l2,l3,l4,l5] (.ref r::st) H Q:=w_x (show decode kb8 50 = .ok (.aload_n 0,1) from by decide +kernel) rfl
theorem m8_51 : M8 51 ls (.ref (b + 1)::st) (put (b + 1) pre s A post) Q = M8 54 ls (.ref ((b + 1) + 12)::st) (put (b + 1) pre s A post) Q:=w_get (show decode kb8 51 = .ok (.getfield 43,3) from by decide +kernel) gf_43 put_o rfl
theorem m8_54 : M8 54 [l0,l1,l2,l3,l4,.val (.int v)] st H Q = M8 56 [l0,l1,l2,l3,l4,.val (.int v)] (.int v::st) H Q:=w_x (show decode kb8 54 = .ok (.iload 5,2) from by decide +kernel) rfl
theorem m8_56  : M8 56 ls (.int j::.ref ((b + 1) + 12)::st) (put (b + 1) pre s A post) Q = (inB j (A 11)∧M8 57 ls (.int (getA (A 11) j)::st) (put (b + 1) pre s A post) Q):=w_ild (show decode kb8 56 = .ok (.baload,1) from by decide +kernel) rfl put_a11
theorem m8_57 : M8 57 ls (.int x::st) H Q = if x = 0 then M8 99 ls st H Q else M8 60 ls st H Q:=w_if (show decode kb8 57 = .ok (.ifCond .eq 42,3) from by decide +kernel) (z_eq x) rfl
theorem m8_60 : M8 60 [.val (.ref r),l1,l2,l3,l4,l5] st H Q = M8 61 [.val (.ref r),l1,l2,l3,l4,l5] (.ref r::st) H Q:=w_x (show decode kb8 60 = .ok (.aload_n 0,1) from by decide +kernel) rfl
theorem m8_61 : M8 61 [l0,l1,.val (.int v),l3,l4,l5] st H Q = M8 62 [l0,l1,.val (.int v),l3,l4,l5] (.int v::st) H Q:=w_x (show decode kb8 61 = .ok (.iload_n 2,1) from by decide +kernel) rfl
theorem m8_62 : M8 62 ls st H Q = M8 64 ls (.int 32::st) H Q:=w_con (show decode kb8 62 = .ok (.bipush 32,2) from by decide +kernel) rfl (by decide)
theorem m8_64 : M8 64 ls (.int y::.int x::st) H Q = M8 65 ls (.int (x * y)::st) H Q:=w_x (show decode kb8 64 = .ok (.imul,1) from by decide +kernel) rfl
theorem m8_65 : M8 65 [l0,l1,l2,l3,.val (.int v),l5] st H Q = M8 67 [l0,l1,l2,l3,.val (.int v),l5] (.int v::st) H Q:=w_x (show decode kb8 65 = .ok (.iload 4,2) from by decide +kernel) rfl
theorem m8_67 : M8 67 ls (.int y::.int x::st) H Q = M8 68 ls (.int (x + y)::st) H Q:=w_x (show decode kb8 67 = .ok (.iadd,1) from by decide +kernel) rfl
theorem m8_68 : M8 68 [.val (.ref r),l1,l2,l3,l4,l5] st H Q = M8 69 [.val (.ref r),l1,l2,l3,l4,l5] (.ref r::st) H Q:=w_x (show decode kb8 68 = .ok (.aload_n 0,1) from by decide +kernel) rfl
theorem m8_69 : M8 69 ls (.ref (b + 1)::st) (put (b + 1) pre s A post) Q = M8 72 ls (.ref ((b + 1) + 10)::st) (put (b + 1) pre s A post) Q:=w_get (show decode kb8 69 = .ok (.getfield 37,3) from by decide +kernel) gf_37 put_o rfl
theorem m8_72 : M8 72 [l0,l1,l2,.val (.int v),l4,l5] st H Q = M8 73 [l0,l1,l2,.val (.int v),l4,l5] (.int v::st) H Q:=w_x (show decode kb8 72 = .ok (.iload_n 3,1) from by decide +kernel) rfl
theorem m8_73  : M8 73 ls (.int j::.ref ((b + 1) + 10)::st) (put (b + 1) pre s A post) Q = (inB j (A 9)∧M8 74 ls (.int (getA (A 9) j)::st) (put (b + 1) pre s A post) Q):=w_ild (show decode kb8 73 = .ok (.iaload,1) from by decide +kernel) rfl put_a9
theorem m8_74 : M8 74 [.val (.ref r),l1,l2,l3,l4,l5] st H Q = M8 75 [.val (.ref r),l1,l2,l3,l4,l5] (.ref r::st) H Q:=w_x (show decode kb8 74 = .ok (.aload_n 0,1) from by decide +kernel) rfl
theorem m8_75 : M8 75 ls (.ref (b + 1)::st) (put (b + 1) pre s A post) Q = M8 78 ls (.ref ((b + 1) + 10)::st) (put (b + 1) pre s A post) Q:=w_get (show decode kb8 75 = .ok (.getfield 37,3) from by decide +kernel) gf_37 put_o rfl
theorem m8_78 : M8 78 [l0,l1,l2,l3,l4,.val (.int v)] st H Q = M8 80 [l0,l1,l2,l3,l4,.val (.int v)] (.int v::st) H Q:=w_x (show decode kb8 78 = .ok (.iload 5,2) from by decide +kernel) rfl
theorem m8_80  : M8 80 ls (.int j::.ref ((b + 1) + 10)::st) (put (b + 1) pre s A post) Q = (inB j (A 9)∧M8 81 ls (.int (getA (A 9) j)::st) (put (b + 1) pre s A post) Q):=w_ild (show decode kb8 80 = .ok (.iaload,1) from by decide +kernel) rfl put_a9
theorem m8_81 : M8 81 ls (.int y::.int x::st) H Q = M8 82 ls (.int (x + y)::st) H Q:=w_x (show decode kb8 81 = .ok (.iadd,1) from by decide +kernel) rfl
theorem m8_82 : M8 82 [.val (.ref r),l1,l2,l3,l4,l5] st H Q = M8 83 [.val (.ref r),l1,l2,l3,l4,l5] (.ref r::st) H Q:=w_x (show decode kb8 82 = .ok (.aload_n 0,1) from by decide +kernel) rfl
theorem m8_83 : M8 83 ls (.ref (b + 1)::st) (put (b + 1) pre s A post) Q = M8 86 ls (.ref ((b + 1) + 11)::st) (put (b + 1) pre s A post) Q:=w_get (show decode kb8 83 = .ok (.getfield 40,3) from by decide +kernel) gf_40 put_o rfl
theorem m8_86 : M8 86 [l0,l1,l2,.val (.int v),l4,l5] st H Q = M8 87 [l0,l1,l2,.val (.int v),l4,l5] (.int v::st) H Q:=w_x (show decode kb8 86 = .ok (.iload_n 3,1) from by decide +kernel) rfl
theorem m8_87  : M8 87 ls (.int j::.ref ((b + 1) + 11)::st) (put (b + 1) pre s A post) Q = (inB j (A 10)∧M8 88 ls (.int (getA (A 10) j)::st) (put (b + 1) pre s A post) Q):=w_ild (show decode kb8 87 = .ok (.iaload,1) from by decide +kernel) rfl put_a10
theorem m8_88 : M8 88 [.val (.ref r),l1,l2,l3,l4,l5] st H Q = M8 89 [.val (.ref r),l1,l2,l3,l4,l5] (.ref r::st) H Q:=w_x (show decode kb8 88 = .ok (.aload_n 0,1) from by decide +kernel) rfl
theorem m8_89 : M8 89 ls (.ref (b + 1)::st) (put (b + 1) pre s A post) Q = M8 92 ls (.ref ((b + 1) + 11)::st) (put (b + 1) pre s A post) Q:=w_get (show decode kb8 89 = .ok (.getfield 40,3) from by decide +kernel) gf_40 put_o rfl
theorem m8_92 : M8 92 [l0,l1,l2,l3,l4,.val (.int v)] st H Q = M8 94 [l0,l1,l2,l3,l4,.val (.int v)] (.int v::st) H Q:=w_x (show decode kb8 92 = .ok (.iload 5,2) from by decide +kernel) rfl
theorem m8_94  : M8 94 ls (.int j::.ref ((b + 1) + 11)::st) (put (b + 1) pre s A post) Q = (inB j (A 10)∧M8 95 ls (.int (getA (A 10) j)::st) (put (b + 1) pre s A post) Q):=w_ild (show decode kb8 94 = .ok (.iaload,1) from by decide +kernel) rfl put_a10
theorem m8_95 : M8 95 ls (.int y::.int x::st) H Q = M8 96 ls (.int (x + y)::st) H Q:=w_x (show decode kb8 95 = .ok (.iadd,1) from by decide +kernel) rfl
theorem cr8_124 : vR tables_1 dn y8 124 = some (true,y9,prog_1_method_22_code,4,none,3,0):=pR_of (cR_of (by decide +kernel) rc_9 dn_9 dn_8 (sig:=⟨[.int,.int,.int],none⟩) (by decide +kernel) (by decide +kernel) rfl rfl) (by decide +kernel) (by decide +kernel)
theorem m8_96 (a0 : Int32) (a1 : Int32) (a2 : Int32) : M8 96 ls [.int a2,.int a1,.int a0,.ref (b + 1)] (put (b + 1) pre s A post) Q = M9 0 [.val (.ref (b + 1)),.val (.int a0),.val (.int a1),.val (.int a2)] [] (put (b + 1) pre s A post) (fun v H1 => M8 99 ls (v.toList ++ []) H1 Q):=w_virt (as:=[.int a2,.int a1,.int a0]) (rest:=[]) (a:=(b + 1)) (show decode kb8 96 = .ok (.invokevirtual 124,3) from by decide +kernel) cr8_124 put_o rfl rfl (Nat.le_of_ble_eq_true rfl) (by show 4≤4; omega) rfl
theorem m8_99 : M8 99 [l0,l1,l2,l3,.val (.int v),l5] st H Q = M8 102 [l0,l1,l2,l3,.val (.int (v + 1)),l5] st H Q:=w_iinc (show decode kb8 99 = .ok (.iinc 4 1,3) from by decide +kernel) rfl (by decide) rfl
theorem m8_102 : M8 102 ls st H Q = M8 32 ls st H Q:=w_x (show decode kb8 102 = .ok (.goto (-70),3) from by decide +kernel) rfl
theorem m8_105 : M8 105 [l0,l1,.val (.int v),l3,l4,l5] st H Q = M8 108 [l0,l1,.val (.int (v + 1)),l3,l4,l5] st H Q:=w_iinc (show decode kb8 105 = .ok (.iinc 2 1,3) from by decide +kernel) rfl (by decide) rfl
theorem m8_108 : M8 108 ls st H Q = M8 2 ls st H Q:=w_x (show decode kb8 108 = .ok (.goto (-106),3) from by decide +kernel) rfl
theorem m8_111 : M8 111 ls [] H Q = Q none H:=w_vret (show decode kb8 111 = .ok (.return_,1) from by decide +kernel) rfl
theorem m9_0 : M9 0 [.val (.ref r),l1,l2,l3] st H Q = M9 1 [.val (.ref r),l1,l2,l3] (.ref r::st) H Q:=w_x (show decode kb9 0 = .ok (.aload_n 0,1) from by decide +kernel) rfl
theorem m9_1 : M9 1 ls (.ref (b + 1)::st) (put (b + 1) pre s A post) Q = M9 4 ls (.ref ((b + 1) + 12)::st) (put (b + 1) pre s A post) Q:=w_get (show decode kb9 1 = .ok (.getfield 43,3) from by decide +kernel) gf_43 put_o rfl
theorem m9_4 : M9 4 [l0,.val (.int v),l2,l3] st H Q = M9 5 [l0,.val (.int v),l2,l3] (.int v::st) H Q:=w_x (show decode kb9 4 = .ok (.iload_n 1,1) from by decide +kernel) rfl
theorem m9_5  : M9 5 ls (.int j::.ref ((b + 1) + 12)::st) (put (b + 1) pre s A post) Q = (inB j (A 11)∧M9 6 ls (.int (getA (A 11) j)::st) (put (b + 1) pre s A post) Q):=w_ild (show decode kb9 5 = .ok (.baload,1) from by decide +kernel) rfl put_a11
theorem m9_6 : M9 6 ls (.int x::st) H Q = if x = 0 then M9 39 ls st H Q else M9 9 ls st H Q:=w_if (show decode kb9 6 = .ok (.ifCond .eq 33,3) from by decide +kernel) (z_eq x) rfl
theorem m9_9 : M9 9 [l0,l1,.val (.int v),l3] st H Q = M9 10 [l0,l1,.val (.int v),l3] (.int v::st) H Q:=w_x (show decode kb9 9 = .ok (.iload_n 2,1) from by decide +kernel) rfl
theorem m9_10 : M9 10 [.val (.ref r),l1,l2,l3] st H Q = M9 11 [.val (.ref r),l1,l2,l3] (.ref r::st) H Q:=w_x (show decode kb9 10 = .ok (.aload_n 0,1) from by decide +kernel) rfl
theorem m9_11 : M9 11 ls (.ref (b + 1)::st) (put (b + 1) pre s A post) Q = M9 14 ls (.ref ((b + 1) + 10)::st) (put (b + 1) pre s A post) Q:=w_get (show decode kb9 11 = .ok (.getfield 37,3) from by decide +kernel) gf_37 put_o rfl
theorem m9_14 : M9 14 [l0,.val (.int v),l2,l3] st H Q = M9 15 [l0,.val (.int v),l2,l3] (.int v::st) H Q:=w_x (show decode kb9 14 = .ok (.iload_n 1,1) from by decide +kernel) rfl
theorem m9_15  : M9 15 ls (.int j::.ref ((b + 1) + 10)::st) (put (b + 1) pre s A post) Q = (inB j (A 9)∧M9 16 ls (.int (getA (A 9) j)::st) (put (b + 1) pre s A post) Q):=w_ild (show decode kb9 15 = .ok (.iaload,1) from by decide +kernel) rfl put_a9
theorem m9_16 : M9 16 ls (.int y::.int x::st) H Q = if x < y then M9 39 ls st H Q else M9 19 ls st H Q:=w_icmp (show decode kb9 16 = .ok (.if_icmp .lt 23,3) from by decide +kernel) (i_lt x y) rfl
theorem m9_19 : M9 19 [l0,l1,.val (.int v),l3] st H Q = M9 20 [l0,l1,.val (.int v),l3] (.int v::st) H Q:=w_x (show decode kb9 19 = .ok (.iload_n 2,1) from by decide +kernel) rfl
theorem m9_20 : M9 20 [.val (.ref r),l1,l2,l3] st H Q = M9 21 [.val (.ref r),l1,l2,l3] (.ref r::st) H Q:=w_x (show decode kb9 20 = .ok (.aload_n 0,1) from by decide +kernel) rfl
theorem m9_21 : M9 21 ls (.ref (b + 1)::st) (put (b + 1) pre s A post) Q = M9 24 ls (.ref ((b + 1) + 10)::st) (put (b + 1) pre s A post) Q:=w_get (show decode kb9 21 = .ok (.getfield 37,3) from by decide +kernel) gf_37 put_o rfl
theorem m9_24 : M9 24 [l0,.val (.int v),l2,l3] st H Q = M9 25 [l0,.val (.int v),l2,l3] (.int v::st) H Q:=w_x (show decode kb9 24 = .ok (.iload_n 1,1) from by decide +kernel) rfl
theorem m9_25  : M9 25 ls (.int j::.ref ((b + 1) + 10)::st) (put (b + 1) pre s A post) Q = (inB j (A 9)∧M9 26 ls (.int (getA (A 9) j)::st) (put (b + 1) pre s A post) Q):=w_ild (show decode kb9 25 = .ok (.iaload,1) from by decide +kernel) rfl put_a9
theorem m9_26 : M9 26 ls (.int y::.int x::st) H Q = if x = y then M9 29 ls st H Q else M9 60 ls st H Q:=w_icmpN (show decode kb9 26 = .ok (.if_icmp .ne 34,3) from by decide +kernel) (i_ne x y) rfl
theorem m9_29 : M9 29 [l0,l1,l2,.val (.int v)] st H Q = M9 30 [l0,l1,l2,.val (.int v)] (.int v::st) H Q:=w_x (show decode kb9 29 = .ok (.iload_n 3,1) from by decide +kernel) rfl
theorem m9_30 : M9 30 [.val (.ref r),l1,l2,l3] st H Q = M9 31 [.val (.ref r),l1,l2,l3] (.ref r::st) H Q:=w_x (show decode kb9 30 = .ok (.aload_n 0,1) from by decide +kernel) rfl
theorem m9_31 : M9 31 ls (.ref (b + 1)::st) (put (b + 1) pre s A post) Q = M9 34 ls (.ref ((b + 1) + 11)::st) (put (b + 1) pre s A post) Q:=w_get (show decode kb9 31 = .ok (.getfield 40,3) from by decide +kernel) gf_40 put_o rfl
theorem m9_34 : M9 34 [l0,.val (.int v),l2,l3] st H Q = M9 35 [l0,.val (.int v),l2,l3] (.int v::st) H Q:=w_x (show decode kb9 34 = .ok (.iload_n 1,1) from by decide +kernel) rfl
theorem m9_35  : M9 35 ls (.int j::.ref ((b + 1) + 11)::st) (put (b + 1) pre s A post) Q = (inB j (A 10)∧M9 36 ls (.int (getA (A 10) j)::st) (put (b + 1) pre s A post) Q):=w_ild (show decode kb9 35 = .ok (.iaload,1) from by decide +kernel) rfl put_a10
theorem m9_36 : M9 36 ls (.int y::.int x::st) H Q = if y < x then M9 39 ls st H Q else M9 60 ls st H Q:=w_icmpN (show decode kb9 36 = .ok (.if_icmp .le 24,3) from by decide +kernel) (i_le x y) rfl
theorem m9_39 : M9 39 [.val (.ref r),l1,l2,l3] st H Q = M9 40 [.val (.ref r),l1,l2,l3] (.ref r::st) H Q:=w_x (show decode kb9 39 = .ok (.aload_n 0,1) from by decide +kernel) rfl
theorem m9_40 : M9 40 ls (.ref (b + 1)::st) (put (b + 1) pre s A post) Q = M9 43 ls (.ref ((b + 1) + 12)::st) (put (b + 1) pre s A post) Q:=w_get (show decode kb9 40 = .ok (.getfield 43,3) from by decide +kernel) gf_43 put_o rfl
theorem m9_43 : M9 43 [l0,.val (.int v),l2,l3] st H Q = M9 44 [l0,.val (.int v),l2,l3] (.int v::st) H Q:=w_x (show decode kb9 43 = .ok (.iload_n 1,1) from by decide +kernel) rfl
theorem m9_44 : M9 44 ls st H Q = M9 45 ls (.int 1::st) H Q:=w_con (show decode kb9 44 = .ok (.iconst 1,1) from by decide +kernel) rfl (by decide)
theorem m9_45  : M9 45 ls (.int v::.int j::.ref ((b + 1) + 12)::st) (put (b + 1) pre s A post) Q = (inB j (A 11)∧M9 46 ls st (put (b + 1) pre s (ou A 11 (setA (A 11) j (nar .boolean v))) post) Q):=w_ist (show decode kb9 45 = .ok (.bastore,1) from by decide +kernel) rfl put_a11 (by omega) rfl put_w11
theorem m9_46 : M9 46 [.val (.ref r),l1,l2,l3] st H Q = M9 47 [.val (.ref r),l1,l2,l3] (.ref r::st) H Q:=w_x (show decode kb9 46 = .ok (.aload_n 0,1) from by decide +kernel) rfl
theorem m9_47 : M9 47 ls (.ref (b + 1)::st) (put (b + 1) pre s A post) Q = M9 50 ls (.ref ((b + 1) + 10)::st) (put (b + 1) pre s A post) Q:=w_get (show decode kb9 47 = .ok (.getfield 37,3) from by decide +kernel) gf_37 put_o rfl
theorem m9_50 : M9 50 [l0,.val (.int v),l2,l3] st H Q = M9 51 [l0,.val (.int v),l2,l3] (.int v::st) H Q:=w_x (show decode kb9 50 = .ok (.iload_n 1,1) from by decide +kernel) rfl
theorem m9_51 : M9 51 [l0,l1,.val (.int v),l3] st H Q = M9 52 [l0,l1,.val (.int v),l3] (.int v::st) H Q:=w_x (show decode kb9 51 = .ok (.iload_n 2,1) from by decide +kernel) rfl
theorem m9_52  : M9 52 ls (.int v::.int j::.ref ((b + 1) + 10)::st) (put (b + 1) pre s A post) Q = (inB j (A 9)∧M9 53 ls st (put (b + 1) pre s (ou A 9 (setA (A 9) j v)) post) Q):=w_ist (show decode kb9 52 = .ok (.iastore,1) from by decide +kernel) rfl put_a9 (by omega) rfl put_w9
theorem m9_53 : M9 53 [.val (.ref r),l1,l2,l3] st H Q = M9 54 [.val (.ref r),l1,l2,l3] (.ref r::st) H Q:=w_x (show decode kb9 53 = .ok (.aload_n 0,1) from by decide +kernel) rfl
theorem m9_54 : M9 54 ls (.ref (b + 1)::st) (put (b + 1) pre s A post) Q = M9 57 ls (.ref ((b + 1) + 11)::st) (put (b + 1) pre s A post) Q:=w_get (show decode kb9 54 = .ok (.getfield 40,3) from by decide +kernel) gf_40 put_o rfl
theorem m9_57 : M9 57 [l0,.val (.int v),l2,l3] st H Q = M9 58 [l0,.val (.int v),l2,l3] (.int v::st) H Q:=w_x (show decode kb9 57 = .ok (.iload_n 1,1) from by decide +kernel) rfl
theorem m9_58 : M9 58 [l0,l1,l2,.val (.int v)] st H Q = M9 59 [l0,l1,l2,.val (.int v)] (.int v::st) H Q:=w_x (show decode kb9 58 = .ok (.iload_n 3,1) from by decide +kernel) rfl
theorem m9_59  : M9 59 ls (.int v::.int j::.ref ((b + 1) + 11)::st) (put (b + 1) pre s A post) Q = (inB j (A 10)∧M9 60 ls st (put (b + 1) pre s (ou A 10 (setA (A 10) j v)) post) Q):=w_ist (show decode kb9 59 = .ok (.iastore,1) from by decide +kernel) rfl put_a10 (by omega) rfl put_w10
theorem m9_60 : M9 60 ls [] H Q = Q none H:=w_vret (show decode kb9 60 = .ok (.return_,1) from by decide +kernel) rfl
theorem m10_0 : M10 0 ls st H Q = M10 1 ls (.int 0::st) H Q:=w_con (show decode kb10 0 = .ok (.iconst 0,1) from by decide +kernel) rfl (by decide)
theorem m10_1u : M10 1 [l0,.unset,l2,l3,l4] ((.int v)::st) H Q = M10 2 [l0,.val (.int v),l2,l3,l4] st H Q:=w_st (i:=1) (p:=isI) (show decode kb10 1 = .ok (.istore_n 1,1) from by decide +kernel) rfl rfl rfl rfl rfl rfl
theorem m10_2 : M10 2 [.val (.ref r),l1,l2,l3,l4] st H Q = M10 3 [.val (.ref r),l1,l2,l3,l4] (.ref r::st) H Q:=w_x (show decode kb10 2 = .ok (.aload_n 0,1) from by decide +kernel) rfl
theorem m10_3 : M10 3 ls (.ref (b + 1)::st) (put (b + 1) pre s A post) Q = M10 6 ls (.int (s 6)::st) (put (b + 1) pre s A post) Q:=w_get (show decode kb10 3 = .ok (.getfield 93,3) from by decide +kernel) gf_93 put_o rfl
theorem m10_6u : M10 6 [l0,l1,.unset,l3,l4] ((.int v)::st) H Q = M10 7 [l0,l1,.val (.int v),l3,l4] st H Q:=w_st (i:=2) (p:=isI) (show decode kb10 6 = .ok (.istore_n 2,1) from by decide +kernel) rfl rfl rfl rfl rfl rfl
theorem m10_7 : M10 7 ls st H Q = M10 8 ls (.int 0::st) H Q:=w_con (show decode kb10 7 = .ok (.iconst 0,1) from by decide +kernel) rfl (by decide)
theorem m10_8u : M10 8 [l0,l1,l2,.unset,l4] ((.int v)::st) H Q = M10 9 [l0,l1,l2,.val (.int v),l4] st H Q:=w_st (i:=3) (p:=isI) (show decode kb10 8 = .ok (.istore_n 3,1) from by decide +kernel) rfl rfl rfl rfl rfl rfl
theorem m10_9 : M10 9 [l0,l1,l2,.val (.int v),l4] st H Q = M10 10 [l0,l1,l2,.val (.int v),l4] (.int v::st) H Q:=w_x (show decode kb10 9 = .ok (.iload_n 3,1) from by decide +kernel) rfl
theorem m10_10 : M10 10 ls st H Q = M10 12 ls (.int 40::st) H Q:=w_con (show decode kb10 10 = .ok (.bipush 40,2) from by decide +kernel) rfl (by decide)
theorem m10_12 : M10 12 ls (.int y::.int x::st) H Q = if x < y then M10 15 ls st H Q else M10 55 ls st H Q:=w_icmpN (show decode kb10 12 = .ok (.if_icmp .ge 43,3) from by decide +kernel) (i_ge x y) rfl
theorem m10_15 : M10 15 [l0,.val (.int v),l2,l3,l4] st H Q = M10 16 [l0,.val (.int v),l2,l3,l4] (.int v::st) H Q:=w_x (show decode kb10 15 = .ok (.iload_n 1,1) from by decide +kernel) rfl
theorem m10_16 : M10 16 [l0,l1,.val (.int v),l3,l4] st H Q = M10 17 [l0,l1,.val (.int v),l3,l4] (.int v::st) H Q:=w_x (show decode kb10 16 = .ok (.iload_n 2,1) from by decide +kernel) rfl
theorem m10_17 : M10 17 ls (.int y::.int x::st) H Q = if x < y then M10 20 ls st H Q else M10 55 ls st H Q:=w_icmpN (show decode kb10 17 = .ok (.if_icmp .ge 38,3) from by decide +kernel) (i_ge x y) rfl
theorem m10_20 : M10 20 [l0,.val (.int v),l2,l3,l4] st H Q = M10 21 [l0,.val (.int v),l2,l3,l4] (.int v::st) H Q:=w_x (show decode kb10 20 = .ok (.iload_n 1,1) from by decide +kernel) rfl
theorem m10_21 : M10 21 [l0,l1,.val (.int v),l3,l4] st H Q = M10 22 [l0,l1,.val (.int v),l3,l4] (.int v::st) H Q:=w_x (show decode kb10 21 = .ok (.iload_n 2,1) from by decide +kernel) rfl
theorem m10_22 : M10 22 [l0,.val (.int v),l2,l3,l4] st H Q = M10 23 [l0,.val (.int v),l2,l3,l4] (.int v::st) H Q:=w_x (show decode kb10 22 = .ok (.iload_n 1,1) from by decide +kernel) rfl
theorem m10_23 : M10 23 ls (.int y::.int x::st) H Q = M10 24 ls (.int (x - y)::st) H Q:=w_x (show decode kb10 23 = .ok (.isub,1) from by decide +kernel) rfl
theorem m10_24 : M10 24 ls st H Q = M10 25 ls (.int 2::st) H Q:=w_con (show decode kb10 24 = .ok (.iconst 2,1) from by decide +kernel) rfl (by decide)
theorem m10_25 : M10 25 ls (.int y::.int x::st) H Q = (y ≠ 0∧M10 26 ls (.int (x / y)::st) H Q):=w_div (f:=fun x y => x / y) (show decode kb10 25 = .ok (.idiv,1) from by decide +kernel) (fun _ => rfl) rfl rfl
theorem m10_26 : M10 26 ls (.int y::.int x::st) H Q = M10 27 ls (.int (x + y)::st) H Q:=w_x (show decode kb10 26 = .ok (.iadd,1) from by decide +kernel) rfl
theorem m10_27u : M10 27 [l0,l1,l2,l3,.unset] ((.int v)::st) H Q = M10 29 [l0,l1,l2,l3,.val (.int v)] st H Q:=w_st (i:=4) (p:=isI) (show decode kb10 27 = .ok (.istore 4,2) from by decide +kernel) rfl rfl rfl rfl rfl rfl
theorem m10_27i : M10 27 [l0,l1,l2,l3,.val (.int z)] ((.int v)::st) H Q = M10 29 [l0,l1,l2,l3,.val (.int v)] st H Q:=w_st (i:=4) (p:=isI) (show decode kb10 27 = .ok (.istore 4,2) from by decide +kernel) rfl rfl rfl rfl rfl rfl
theorem m10_27r : M10 27 [l0,l1,l2,l3,.val (.ref q)] ((.int v)::st) H Q = M10 29 [l0,l1,l2,l3,.val (.int v)] st H Q:=w_st (i:=4) (p:=isI) (show decode kb10 27 = .ok (.istore 4,2) from by decide +kernel) rfl rfl rfl rfl rfl rfl
theorem m10_27g (h : okS l4) : M10 27 [l0,l1,l2,l3,l4] ((.int v)::st) H Q = M10 29 [l0,l1,l2,l3,.val (.int v)] st H Q:=by rcases h with rfl | ⟨z,rfl⟩ <;> first | exact m10_27u | exact m10_27i
theorem m10_29 : M10 29 [.val (.ref r),l1,l2,l3,l4] st H Q = M10 30 [.val (.ref r),l1,l2,l3,l4] (.ref r::st) H Q:=w_x (show decode kb10 29 = .ok (.aload_n 0,1) from by decide +kernel) rfl
theorem m10_30 : M10 30 [l0,l1,l2,l3,.val (.int v)] st H Q = M10 32 [l0,l1,l2,l3,.val (.int v)] (.int v::st) H Q:=w_x (show decode kb10 30 = .ok (.iload 4,2) from by decide +kernel) rfl
theorem cr10_103 : vR tables_1 dn y10 103 = some (true,y11,prog_1_method_26_code,3,(some .boolean),1,0):=pR_of (cR_of (by decide +kernel) rc_11 dn_11 dn_10 (sig:=⟨[.int],some .boolean⟩) (by decide +kernel) (by decide +kernel) rfl rfl) (by decide +kernel) (by decide +kernel)
theorem m10_32 (a0 : Int32) : M10 32 ls [.int a0,.ref (b + 1)] (put (b + 1) pre s A post) Q = M11 0 [.val (.ref (b + 1)),.val (.int a0),.unset] [] (put (b + 1) pre s A post) (fun v H1 => M10 35 ls (v.toList ++ []) H1 Q):=w_virt (as:=[.int a0]) (rest:=[]) (a:=(b + 1)) (show decode kb10 32 = .ok (.invokevirtual 103,3) from by decide +kernel) cr10_103 put_o rfl rfl (Nat.le_of_ble_eq_true rfl) (by show 2≤3; omega) rfl
theorem m10_35 : M10 35 ls (.int x::st) H Q = if x = 0 then M10 44 ls st H Q else M10 38 ls st H Q:=w_if (show decode kb10 35 = .ok (.ifCond .eq 9,3) from by decide +kernel) (z_eq x) rfl
theorem m10_38 : M10 38 [l0,l1,l2,l3,.val (.int v)] st H Q = M10 40 [l0,l1,l2,l3,.val (.int v)] (.int v::st) H Q:=w_x (show decode kb10 38 = .ok (.iload 4,2) from by decide +kernel) rfl
theorem m10_40i : M10 40 [l0,l1,.val (.int z),l3,l4] ((.int v)::st) H Q = M10 41 [l0,l1,.val (.int v),l3,l4] st H Q:=w_st (i:=2) (p:=isI) (show decode kb10 40 = .ok (.istore_n 2,1) from by decide +kernel) rfl rfl rfl rfl rfl rfl
theorem m10_41 : M10 41 ls st H Q = M10 49 ls st H Q:=w_x (show decode kb10 41 = .ok (.goto 8,3) from by decide +kernel) rfl
theorem m10_44 : M10 44 [l0,l1,l2,l3,.val (.int v)] st H Q = M10 46 [l0,l1,l2,l3,.val (.int v)] (.int v::st) H Q:=w_x (show decode kb10 44 = .ok (.iload 4,2) from by decide +kernel) rfl
theorem m10_46 : M10 46 ls st H Q = M10 47 ls (.int 1::st) H Q:=w_con (show decode kb10 46 = .ok (.iconst 1,1) from by decide +kernel) rfl (by decide)
theorem m10_47 : M10 47 ls (.int y::.int x::st) H Q = M10 48 ls (.int (x + y)::st) H Q:=w_x (show decode kb10 47 = .ok (.iadd,1) from by decide +kernel) rfl
theorem m10_48i : M10 48 [l0,.val (.int z),l2,l3,l4] ((.int v)::st) H Q = M10 49 [l0,.val (.int v),l2,l3,l4] st H Q:=w_st (i:=1) (p:=isI) (show decode kb10 48 = .ok (.istore_n 1,1) from by decide +kernel) rfl rfl rfl rfl rfl rfl
theorem m10_49 : M10 49 [l0,l1,l2,.val (.int v),l4] st H Q = M10 52 [l0,l1,l2,.val (.int (v + 1)),l4] st H Q:=w_iinc (show decode kb10 49 = .ok (.iinc 3 1,3) from by decide +kernel) rfl (by decide) rfl
theorem m10_52 : M10 52 ls st H Q = M10 9 ls st H Q:=w_x (show decode kb10 52 = .ok (.goto (-43),3) from by decide +kernel) rfl
theorem m10_55 : M10 55 [l0,.val (.int v),l2,l3,l4] st H Q = M10 56 [l0,.val (.int v),l2,l3,l4] (.int v::st) H Q:=w_x (show decode kb10 55 = .ok (.iload_n 1,1) from by decide +kernel) rfl
theorem m10_56 : M10 56 ls (.int z::st) H Q = Q (some (.int z)) H:=w_iret (show decode kb10 56 = .ok (.ireturn,1) from by decide +kernel) rfl
theorem m11_0 : M11 0 ls st H Q = M11 1 ls (.int 0::st) H Q:=w_con (show decode kb11 0 = .ok (.iconst 0,1) from by decide +kernel) rfl (by decide)
theorem m11_1u : M11 1 [l0,l1,.unset] ((.int v)::st) H Q = M11 2 [l0,l1,.val (.int v)] st H Q:=w_st (i:=2) (p:=isI) (show decode kb11 1 = .ok (.istore_n 2,1) from by decide +kernel) rfl rfl rfl rfl rfl rfl
theorem m11_2 : M11 2 [l0,l1,.val (.int v)] st H Q = M11 3 [l0,l1,.val (.int v)] (.int v::st) H Q:=w_x (show decode kb11 2 = .ok (.iload_n 2,1) from by decide +kernel) rfl
theorem m11_3 : M11 3 [.val (.ref r),l1,l2] st H Q = M11 4 [.val (.ref r),l1,l2] (.ref r::st) H Q:=w_x (show decode kb11 3 = .ok (.aload_n 0,1) from by decide +kernel) rfl
theorem m11_4 : M11 4 ls (.ref (b + 1)::st) (put (b + 1) pre s A post) Q = M11 7 ls (.int (s 0)::st) (put (b + 1) pre s A post) Q:=w_get (show decode kb11 4 = .ok (.getfield 65,3) from by decide +kernel) gf_65 put_o rfl
theorem m11_7 : M11 7 ls (.int y::.int x::st) H Q = if x < y then M11 10 ls st H Q else M11 23 ls st H Q:=w_icmpN (show decode kb11 7 = .ok (.if_icmp .ge 16,3) from by decide +kernel) (i_ge x y) rfl
theorem m11_10 : M11 10 [.val (.ref r),l1,l2] st H Q = M11 11 [.val (.ref r),l1,l2] (.ref r::st) H Q:=w_x (show decode kb11 10 = .ok (.aload_n 0,1) from by decide +kernel) rfl
theorem m11_11 : M11 11 ls (.ref (b + 1)::st) (put (b + 1) pre s A post) Q = M11 14 ls (.ref ((b + 1) + 13)::st) (put (b + 1) pre s A post) Q:=w_get (show decode kb11 11 = .ok (.getfield 47,3) from by decide +kernel) gf_47 put_o rfl
theorem m11_14 : M11 14 [l0,l1,.val (.int v)] st H Q = M11 15 [l0,l1,.val (.int v)] (.int v::st) H Q:=w_x (show decode kb11 14 = .ok (.iload_n 2,1) from by decide +kernel) rfl
theorem m11_15 : M11 15 ls st H Q = M11 16 ls (.int 0::st) H Q:=w_con (show decode kb11 15 = .ok (.iconst 0,1) from by decide +kernel) rfl (by decide)
theorem m11_16  : M11 16 ls (.int v::.int j::.ref ((b + 1) + 13)::st) (put (b + 1) pre s A post) Q = (inB j (A 12)∧M11 17 ls st (put (b + 1) pre s (ou A 12 (setA (A 12) j v)) post) Q):=w_ist (show decode kb11 16 = .ok (.iastore,1) from by decide +kernel) rfl put_a12 (by omega) rfl put_w12
theorem m11_17 : M11 17 [l0,l1,.val (.int v)] st H Q = M11 20 [l0,l1,.val (.int (v + 1))] st H Q:=w_iinc (show decode kb11 17 = .ok (.iinc 2 1,3) from by decide +kernel) rfl (by decide) rfl
theorem m11_20 : M11 20 ls st H Q = M11 2 ls st H Q:=w_x (show decode kb11 20 = .ok (.goto (-18),3) from by decide +kernel) rfl
theorem m11_23 : M11 23 ls st H Q = M11 24 ls (.int 0::st) H Q:=w_con (show decode kb11 23 = .ok (.iconst 0,1) from by decide +kernel) rfl (by decide)
theorem m11_24i : M11 24 [l0,l1,.val (.int z)] ((.int v)::st) H Q = M11 25 [l0,l1,.val (.int v)] st H Q:=w_st (i:=2) (p:=isI) (show decode kb11 24 = .ok (.istore_n 2,1) from by decide +kernel) rfl rfl rfl rfl rfl rfl
theorem m11_25 : M11 25 [l0,l1,.val (.int v)] st H Q = M11 26 [l0,l1,.val (.int v)] (.int v::st) H Q:=w_x (show decode kb11 25 = .ok (.iload_n 2,1) from by decide +kernel) rfl
theorem m11_26 : M11 26 [.val (.ref r),l1,l2] st H Q = M11 27 [.val (.ref r),l1,l2] (.ref r::st) H Q:=w_x (show decode kb11 26 = .ok (.aload_n 0,1) from by decide +kernel) rfl
theorem m11_27 : M11 27 ls (.ref (b + 1)::st) (put (b + 1) pre s A post) Q = M11 30 ls (.int (s 0)::st) (put (b + 1) pre s A post) Q:=w_get (show decode kb11 27 = .ok (.getfield 65,3) from by decide +kernel) gf_65 put_o rfl
theorem m11_30 : M11 30 ls st H Q = M11 31 ls (.int 1::st) H Q:=w_con (show decode kb11 30 = .ok (.iconst 1,1) from by decide +kernel) rfl (by decide)
theorem m11_31 : M11 31 ls (.int y::.int x::st) H Q = M11 32 ls (.int (x + y)::st) H Q:=w_x (show decode kb11 31 = .ok (.iadd,1) from by decide +kernel) rfl
theorem m11_32 : M11 32 ls (.int y::.int x::st) H Q = if y < x then M11 51 ls st H Q else M11 35 ls st H Q:=w_icmp (show decode kb11 32 = .ok (.if_icmp .gt 19,3) from by decide +kernel) (i_gt x y) rfl
theorem m11_35 : M11 35 [.val (.ref r),l1,l2] st H Q = M11 36 [.val (.ref r),l1,l2] (.ref r::st) H Q:=w_x (show decode kb11 35 = .ok (.aload_n 0,1) from by decide +kernel) rfl
theorem m11_36 : M11 36 [l0,.val (.int v),l2] st H Q = M11 37 [l0,.val (.int v),l2] (.int v::st) H Q:=w_x (show decode kb11 36 = .ok (.iload_n 1,1) from by decide +kernel) rfl
theorem cr11_132 : vR tables_1 dn y11 132 = some (true,y12,prog_1_method_27_code,7,(some .boolean),1,0):=pR_of (cR_of (by decide +kernel) rc_12 dn_12 dn_11 (sig:=⟨[.int],some .boolean⟩) (by decide +kernel) (by decide +kernel) rfl rfl) (by decide +kernel) (by decide +kernel)
theorem m11_37 (a0 : Int32) : M11 37 ls [.int a0,.ref (b + 1)] (put (b + 1) pre s A post) Q = M12 0 [.val (.ref (b + 1)),.val (.int a0),.unset,.unset,.unset,.unset,.unset] [] (put (b + 1) pre s A post) (fun v H1 => M11 40 ls (v.toList ++ []) H1 Q):=w_virt (as:=[.int a0]) (rest:=[]) (a:=(b + 1)) (show decode kb11 37 = .ok (.invokevirtual 132,3) from by decide +kernel) cr11_132 put_o rfl rfl (Nat.le_of_ble_eq_true rfl) (by show 2≤7; omega) rfl
theorem m11_40 : M11 40 ls (.int x::st) H Q = if x = 0 then M11 43 ls st H Q else M11 45 ls st H Q:=w_ifN (show decode kb11 40 = .ok (.ifCond .ne 5,3) from by decide +kernel) (z_ne x) rfl
theorem m11_43 : M11 43 ls st H Q = M11 44 ls (.int 1::st) H Q:=w_con (show decode kb11 43 = .ok (.iconst 1,1) from by decide +kernel) rfl (by decide)
theorem m11_44 : M11 44 ls (.int z::st) H Q = Q (some (.int (nar .boolean z))) H:=w_iretN (show decode kb11 44 = .ok (.ireturn,1) from by decide +kernel) rfl (by simp)
theorem m11_45 : M11 45 [l0,l1,.val (.int v)] st H Q = M11 48 [l0,l1,.val (.int (v + 1))] st H Q:=w_iinc (show decode kb11 45 = .ok (.iinc 2 1,3) from by decide +kernel) rfl (by decide) rfl
theorem m11_48 : M11 48 ls st H Q = M11 25 ls st H Q:=w_x (show decode kb11 48 = .ok (.goto (-23),3) from by decide +kernel) rfl
theorem m11_51 : M11 51 ls st H Q = M11 52 ls (.int 0::st) H Q:=w_con (show decode kb11 51 = .ok (.iconst 0,1) from by decide +kernel) rfl (by decide)
theorem m11_52 : M11 52 ls (.int z::st) H Q = Q (some (.int (nar .boolean z))) H:=w_iretN (show decode kb11 52 = .ok (.ireturn,1) from by decide +kernel) rfl (by simp)
theorem m12_0 : M12 0 ls st H Q = M12 1 ls (.int 0::st) H Q:=w_con (show decode kb12 0 = .ok (.iconst 0,1) from by decide +kernel) rfl (by decide)
theorem m12_1u : M12 1 [l0,l1,.unset,l3,l4,l5,l6] ((.int v)::st) H Q = M12 2 [l0,l1,.val (.int v),l3,l4,l5,l6] st H Q:=w_st (i:=2) (p:=isI) (show decode kb12 1 = .ok (.istore_n 2,1) from by decide +kernel) rfl rfl rfl rfl rfl rfl
theorem m12_2 : M12 2 ls st H Q = M12 3 ls (.int 0::st) H Q:=w_con (show decode kb12 2 = .ok (.iconst 0,1) from by decide +kernel) rfl (by decide)
theorem m12_3u : M12 3 [l0,l1,l2,.unset,l4,l5,l6] ((.int v)::st) H Q = M12 4 [l0,l1,l2,.val (.int v),l4,l5,l6] st H Q:=w_st (i:=3) (p:=isI) (show decode kb12 3 = .ok (.istore_n 3,1) from by decide +kernel) rfl rfl rfl rfl rfl rfl
theorem m12_4 : M12 4 [l0,l1,l2,.val (.int v),l4,l5,l6] st H Q = M12 5 [l0,l1,l2,.val (.int v),l4,l5,l6] (.int v::st) H Q:=w_x (show decode kb12 4 = .ok (.iload_n 3,1) from by decide +kernel) rfl
theorem m12_5 : M12 5 [.val (.ref r),l1,l2,l3,l4,l5,l6] st H Q = M12 6 [.val (.ref r),l1,l2,l3,l4,l5,l6] (.ref r::st) H Q:=w_x (show decode kb12 5 = .ok (.aload_n 0,1) from by decide +kernel) rfl
theorem m12_6 : M12 6 ls (.ref (b + 1)::st) (put (b + 1) pre s A post) Q = M12 9 ls (.int (s 1)::st) (put (b + 1) pre s A post) Q:=w_get (show decode kb12 6 = .ok (.getfield 69,3) from by decide +kernel) gf_69 put_o rfl
theorem m12_9 : M12 9 ls (.int y::.int x::st) H Q = if x < y then M12 12 ls st H Q else M12 69 ls st H Q:=w_icmpN (show decode kb12 9 = .ok (.if_icmp .ge 60,3) from by decide +kernel) (i_ge x y) rfl
theorem m12_12 : M12 12 [.val (.ref r),l1,l2,l3,l4,l5,l6] st H Q = M12 13 [.val (.ref r),l1,l2,l3,l4,l5,l6] (.ref r::st) H Q:=w_x (show decode kb12 12 = .ok (.aload_n 0,1) from by decide +kernel) rfl
theorem m12_13 : M12 13 ls (.ref (b + 1)::st) (put (b + 1) pre s A post) Q = M12 16 ls (.ref ((b + 1) + 4)::st) (put (b + 1) pre s A post) Q:=w_get (show decode kb12 13 = .ok (.getfield 19,3) from by decide +kernel) gf_19 put_o rfl
theorem m12_16 : M12 16 [l0,l1,l2,.val (.int v),l4,l5,l6] st H Q = M12 17 [l0,l1,l2,.val (.int v),l4,l5,l6] (.int v::st) H Q:=w_x (show decode kb12 16 = .ok (.iload_n 3,1) from by decide +kernel) rfl
theorem m12_17  : M12 17 ls (.int j::.ref ((b + 1) + 4)::st) (put (b + 1) pre s A post) Q = (inB j (A 3)∧M12 18 ls (.int (getA (A 3) j)::st) (put (b + 1) pre s A post) Q):=w_ild (show decode kb12 17 = .ok (.iaload,1) from by decide +kernel) rfl put_a3
theorem m12_18u : M12 18 [l0,l1,l2,l3,.unset,l5,l6] ((.int v)::st) H Q = M12 20 [l0,l1,l2,l3,.val (.int v),l5,l6] st H Q:=w_st (i:=4) (p:=isI) (show decode kb12 18 = .ok (.istore 4,2) from by decide +kernel) rfl rfl rfl rfl rfl rfl
theorem m12_18i : M12 18 [l0,l1,l2,l3,.val (.int z),l5,l6] ((.int v)::st) H Q = M12 20 [l0,l1,l2,l3,.val (.int v),l5,l6] st H Q:=w_st (i:=4) (p:=isI) (show decode kb12 18 = .ok (.istore 4,2) from by decide +kernel) rfl rfl rfl rfl rfl rfl
theorem m12_18r : M12 18 [l0,l1,l2,l3,.val (.ref q),l5,l6] ((.int v)::st) H Q = M12 20 [l0,l1,l2,l3,.val (.int v),l5,l6] st H Q:=w_st (i:=4) (p:=isI) (show decode kb12 18 = .ok (.istore 4,2) from by decide +kernel) rfl rfl rfl rfl rfl rfl
theorem m12_18g (h : okS l4) : M12 18 [l0,l1,l2,l3,l4,l5,l6] ((.int v)::st) H Q = M12 20 [l0,l1,l2,l3,.val (.int v),l5,l6] st H Q:=by rcases h with rfl | ⟨z,rfl⟩ <;> first | exact m12_18u | exact m12_18i
theorem m12_20 : M12 20 [.val (.ref r),l1,l2,l3,l4,l5,l6] st H Q = M12 21 [.val (.ref r),l1,l2,l3,l4,l5,l6] (.ref r::st) H Q:=w_x (show decode kb12 20 = .ok (.aload_n 0,1) from by decide +kernel) rfl
theorem m12_21 : M12 21 ls (.ref (b + 1)::st) (put (b + 1) pre s A post) Q = M12 24 ls (.ref ((b + 1) + 13)::st) (put (b + 1) pre s A post) Q:=w_get (show decode kb12 21 = .ok (.getfield 47,3) from by decide +kernel) gf_47 put_o rfl
theorem m12_24 : M12 24 [.val (.ref r),l1,l2,l3,l4,l5,l6] st H Q = M12 25 [.val (.ref r),l1,l2,l3,l4,l5,l6] (.ref r::st) H Q:=w_x (show decode kb12 24 = .ok (.aload_n 0,1) from by decide +kernel) rfl
theorem m12_25 : M12 25 ls (.ref (b + 1)::st) (put (b + 1) pre s A post) Q = M12 28 ls (.ref ((b + 1) + 5)::st) (put (b + 1) pre s A post) Q:=w_get (show decode kb12 25 = .ok (.getfield 22,3) from by decide +kernel) gf_22 put_o rfl
theorem m12_28 : M12 28 [l0,l1,l2,.val (.int v),l4,l5,l6] st H Q = M12 29 [l0,l1,l2,.val (.int v),l4,l5,l6] (.int v::st) H Q:=w_x (show decode kb12 28 = .ok (.iload_n 3,1) from by decide +kernel) rfl
theorem m12_29  : M12 29 ls (.int j::.ref ((b + 1) + 5)::st) (put (b + 1) pre s A post) Q = (inB j (A 4)∧M12 30 ls (.int (getA (A 4) j)::st) (put (b + 1) pre s A post) Q):=w_ild (show decode kb12 29 = .ok (.iaload,1) from by decide +kernel) rfl put_a4
theorem m12_30  : M12 30 ls (.int j::.ref ((b + 1) + 13)::st) (put (b + 1) pre s A post) Q = (inB j (A 12)∧M12 31 ls (.int (getA (A 12) j)::st) (put (b + 1) pre s A post) Q):=w_ild (show decode kb12 30 = .ok (.iaload,1) from by decide +kernel) rfl put_a12
theorem m12_31 : M12 31 [.val (.ref r),l1,l2,l3,l4,l5,l6] st H Q = M12 32 [.val (.ref r),l1,l2,l3,l4,l5,l6] (.ref r::st) H Q:=w_x (show decode kb12 31 = .ok (.aload_n 0,1) from by decide +kernel) rfl
theorem m12_32 : M12 32 ls (.ref (b + 1)::st) (put (b + 1) pre s A post) Q = M12 35 ls (.ref ((b + 1) + 6)::st) (put (b + 1) pre s A post) Q:=w_get (show decode kb12 32 = .ok (.getfield 25,3) from by decide +kernel) gf_25 put_o rfl
theorem m12_35 : M12 35 [l0,l1,l2,.val (.int v),l4,l5,l6] st H Q = M12 36 [l0,l1,l2,.val (.int v),l4,l5,l6] (.int v::st) H Q:=w_x (show decode kb12 35 = .ok (.iload_n 3,1) from by decide +kernel) rfl
theorem m12_36  : M12 36 ls (.int j::.ref ((b + 1) + 6)::st) (put (b + 1) pre s A post) Q = (inB j (A 5)∧M12 37 ls (.int (getA (A 5) j)::st) (put (b + 1) pre s A post) Q):=w_ild (show decode kb12 36 = .ok (.iaload,1) from by decide +kernel) rfl put_a5
theorem m12_37 : M12 37 ls (.int y::.int x::st) H Q = M12 38 ls (.int (x + y)::st) H Q:=w_x (show decode kb12 37 = .ok (.iadd,1) from by decide +kernel) rfl
theorem m12_38u : M12 38 [l0,l1,l2,l3,l4,.unset,l6] ((.int v)::st) H Q = M12 40 [l0,l1,l2,l3,l4,.val (.int v),l6] st H Q:=w_st (i:=5) (p:=isI) (show decode kb12 38 = .ok (.istore 5,2) from by decide +kernel) rfl rfl rfl rfl rfl rfl
theorem m12_38i : M12 38 [l0,l1,l2,l3,l4,.val (.int z),l6] ((.int v)::st) H Q = M12 40 [l0,l1,l2,l3,l4,.val (.int v),l6] st H Q:=w_st (i:=5) (p:=isI) (show decode kb12 38 = .ok (.istore 5,2) from by decide +kernel) rfl rfl rfl rfl rfl rfl
theorem m12_38r : M12 38 [l0,l1,l2,l3,l4,.val (.ref q),l6] ((.int v)::st) H Q = M12 40 [l0,l1,l2,l3,l4,.val (.int v),l6] st H Q:=w_st (i:=5) (p:=isI) (show decode kb12 38 = .ok (.istore 5,2) from by decide +kernel) rfl rfl rfl rfl rfl rfl
theorem m12_38g (h : okS l5) : M12 38 [l0,l1,l2,l3,l4,l5,l6] ((.int v)::st) H Q = M12 40 [l0,l1,l2,l3,l4,.val (.int v),l6] st H Q:=by rcases h with rfl | ⟨z,rfl⟩ <;> first | exact m12_38u | exact m12_38i
theorem m12_40 : M12 40 [l0,l1,l2,l3,l4,.val (.int v),l6] st H Q = M12 42 [l0,l1,l2,l3,l4,.val (.int v),l6] (.int v::st) H Q:=w_x (show decode kb12 40 = .ok (.iload 5,2) from by decide +kernel) rfl
theorem m12_42 : M12 42 [.val (.ref r),l1,l2,l3,l4,l5,l6] st H Q = M12 43 [.val (.ref r),l1,l2,l3,l4,l5,l6] (.ref r::st) H Q:=w_x (show decode kb12 42 = .ok (.aload_n 0,1) from by decide +kernel) rfl
theorem m12_43 : M12 43 ls (.ref (b + 1)::st) (put (b + 1) pre s A post) Q = M12 46 ls (.ref ((b + 1) + 13)::st) (put (b + 1) pre s A post) Q:=w_get (show decode kb12 43 = .ok (.getfield 47,3) from by decide +kernel) gf_47 put_o rfl
theorem m12_46 : M12 46 [l0,l1,l2,l3,.val (.int v),l5,l6] st H Q = M12 48 [l0,l1,l2,l3,.val (.int v),l5,l6] (.int v::st) H Q:=w_x (show decode kb12 46 = .ok (.iload 4,2) from by decide +kernel) rfl
theorem m12_48  : M12 48 ls (.int j::.ref ((b + 1) + 13)::st) (put (b + 1) pre s A post) Q = (inB j (A 12)∧M12 49 ls (.int (getA (A 12) j)::st) (put (b + 1) pre s A post) Q):=w_ild (show decode kb12 48 = .ok (.iaload,1) from by decide +kernel) rfl put_a12
theorem m12_49 : M12 49 ls (.int y::.int x::st) H Q = if x < y then M12 52 ls st H Q else M12 63 ls st H Q:=w_icmpN (show decode kb12 49 = .ok (.if_icmp .ge 14,3) from by decide +kernel) (i_ge x y) rfl
theorem m12_52 : M12 52 [.val (.ref r),l1,l2,l3,l4,l5,l6] st H Q = M12 53 [.val (.ref r),l1,l2,l3,l4,l5,l6] (.ref r::st) H Q:=w_x (show decode kb12 52 = .ok (.aload_n 0,1) from by decide +kernel) rfl
theorem m12_53 : M12 53 ls (.ref (b + 1)::st) (put (b + 1) pre s A post) Q = M12 56 ls (.ref ((b + 1) + 13)::st) (put (b + 1) pre s A post) Q:=w_get (show decode kb12 53 = .ok (.getfield 47,3) from by decide +kernel) gf_47 put_o rfl
theorem m12_56 : M12 56 [l0,l1,l2,l3,.val (.int v),l5,l6] st H Q = M12 58 [l0,l1,l2,l3,.val (.int v),l5,l6] (.int v::st) H Q:=w_x (show decode kb12 56 = .ok (.iload 4,2) from by decide +kernel) rfl
theorem m12_58 : M12 58 [l0,l1,l2,l3,l4,.val (.int v),l6] st H Q = M12 60 [l0,l1,l2,l3,l4,.val (.int v),l6] (.int v::st) H Q:=w_x (show decode kb12 58 = .ok (.iload 5,2) from by decide +kernel) rfl
theorem m12_60  : M12 60 ls (.int v::.int j::.ref ((b + 1) + 13)::st) (put (b + 1) pre s A post) Q = (inB j (A 12)∧M12 61 ls st (put (b + 1) pre s (ou A 12 (setA (A 12) j v)) post) Q):=w_ist (show decode kb12 60 = .ok (.iastore,1) from by decide +kernel) rfl put_a12 (by omega) rfl put_w12
theorem m12_61 : M12 61 ls st H Q = M12 62 ls (.int 1::st) H Q:=w_con (show decode kb12 61 = .ok (.iconst 1,1) from by decide +kernel) rfl (by decide)
theorem m12_62i : M12 62 [l0,l1,.val (.int z),l3,l4,l5,l6] ((.int v)::st) H Q = M12 63 [l0,l1,.val (.int v),l3,l4,l5,l6] st H Q:=w_st (i:=2) (p:=isI) (show decode kb12 62 = .ok (.istore_n 2,1) from by decide +kernel) rfl rfl rfl rfl rfl rfl
theorem m12_63 : M12 63 [l0,l1,l2,.val (.int v),l4,l5,l6] st H Q = M12 66 [l0,l1,l2,.val (.int (v + 1)),l4,l5,l6] st H Q:=w_iinc (show decode kb12 63 = .ok (.iinc 3 1,3) from by decide +kernel) rfl (by decide) rfl
theorem m12_66 : M12 66 ls st H Q = M12 4 ls st H Q:=w_x (show decode kb12 66 = .ok (.goto (-62),3) from by decide +kernel) rfl
theorem m12_69 : M12 69 ls st H Q = M12 70 ls (.int 0::st) H Q:=w_con (show decode kb12 69 = .ok (.iconst 0,1) from by decide +kernel) rfl (by decide)
theorem m12_70i : M12 70 [l0,l1,l2,.val (.int z),l4,l5,l6] ((.int v)::st) H Q = M12 71 [l0,l1,l2,.val (.int v),l4,l5,l6] st H Q:=w_st (i:=3) (p:=isI) (show decode kb12 70 = .ok (.istore_n 3,1) from by decide +kernel) rfl rfl rfl rfl rfl rfl
theorem m12_71 : M12 71 [l0,l1,l2,.val (.int v),l4,l5,l6] st H Q = M12 72 [l0,l1,l2,.val (.int v),l4,l5,l6] (.int v::st) H Q:=w_x (show decode kb12 71 = .ok (.iload_n 3,1) from by decide +kernel) rfl
theorem m12_72 : M12 72 [.val (.ref r),l1,l2,l3,l4,l5,l6] st H Q = M12 73 [.val (.ref r),l1,l2,l3,l4,l5,l6] (.ref r::st) H Q:=w_x (show decode kb12 72 = .ok (.aload_n 0,1) from by decide +kernel) rfl
theorem m12_73 : M12 73 ls (.ref (b + 1)::st) (put (b + 1) pre s A post) Q = M12 76 ls (.int (s 0)::st) (put (b + 1) pre s A post) Q:=w_get (show decode kb12 73 = .ok (.getfield 65,3) from by decide +kernel) gf_65 put_o rfl
theorem m12_76 : M12 76 ls (.int y::.int x::st) H Q = if x < y then M12 79 ls st H Q else M12 181 ls st H Q:=w_icmpN (show decode kb12 76 = .ok (.if_icmp .ge 105,3) from by decide +kernel) (i_ge x y) rfl
theorem m12_79 : M12 79 ls st H Q = M12 80 ls (.int 0::st) H Q:=w_con (show decode kb12 79 = .ok (.iconst 0,1) from by decide +kernel) rfl (by decide)
theorem m12_80u : M12 80 [l0,l1,l2,l3,.unset,l5,l6] ((.int v)::st) H Q = M12 82 [l0,l1,l2,l3,.val (.int v),l5,l6] st H Q:=w_st (i:=4) (p:=isI) (show decode kb12 80 = .ok (.istore 4,2) from by decide +kernel) rfl rfl rfl rfl rfl rfl
theorem m12_80i : M12 80 [l0,l1,l2,l3,.val (.int z),l5,l6] ((.int v)::st) H Q = M12 82 [l0,l1,l2,l3,.val (.int v),l5,l6] st H Q:=w_st (i:=4) (p:=isI) (show decode kb12 80 = .ok (.istore 4,2) from by decide +kernel) rfl rfl rfl rfl rfl rfl
theorem m12_80r : M12 80 [l0,l1,l2,l3,.val (.ref q),l5,l6] ((.int v)::st) H Q = M12 82 [l0,l1,l2,l3,.val (.int v),l5,l6] st H Q:=w_st (i:=4) (p:=isI) (show decode kb12 80 = .ok (.istore 4,2) from by decide +kernel) rfl rfl rfl rfl rfl rfl
theorem m12_80g (h : okS l4) : M12 80 [l0,l1,l2,l3,l4,l5,l6] ((.int v)::st) H Q = M12 82 [l0,l1,l2,l3,.val (.int v),l5,l6] st H Q:=by rcases h with rfl | ⟨z,rfl⟩ <;> first | exact m12_80u | exact m12_80i
theorem m12_82 : M12 82 [l0,l1,l2,l3,.val (.int v),l5,l6] st H Q = M12 84 [l0,l1,l2,l3,.val (.int v),l5,l6] (.int v::st) H Q:=w_x (show decode kb12 82 = .ok (.iload 4,2) from by decide +kernel) rfl
theorem m12_84 : M12 84 [.val (.ref r),l1,l2,l3,l4,l5,l6] st H Q = M12 85 [.val (.ref r),l1,l2,l3,l4,l5,l6] (.ref r::st) H Q:=w_x (show decode kb12 84 = .ok (.aload_n 0,1) from by decide +kernel) rfl
theorem m12_85 : M12 85 ls (.ref (b + 1)::st) (put (b + 1) pre s A post) Q = M12 88 ls (.int (s 0)::st) (put (b + 1) pre s A post) Q:=w_get (show decode kb12 85 = .ok (.getfield 65,3) from by decide +kernel) gf_65 put_o rfl
theorem m12_88 : M12 88 ls (.int y::.int x::st) H Q = if x < y then M12 91 ls st H Q else M12 175 ls st H Q:=w_icmpN (show decode kb12 88 = .ok (.if_icmp .ge 87,3) from by decide +kernel) (i_ge x y) rfl
theorem m12_91 : M12 91 [l0,l1,l2,.val (.int v),l4,l5,l6] st H Q = M12 92 [l0,l1,l2,.val (.int v),l4,l5,l6] (.int v::st) H Q:=w_x (show decode kb12 91 = .ok (.iload_n 3,1) from by decide +kernel) rfl
theorem m12_92 : M12 92 ls st H Q = M12 94 ls (.int 32::st) H Q:=w_con (show decode kb12 92 = .ok (.bipush 32,2) from by decide +kernel) rfl (by decide)
theorem m12_94 : M12 94 ls (.int y::.int x::st) H Q = M12 95 ls (.int (x * y)::st) H Q:=w_x (show decode kb12 94 = .ok (.imul,1) from by decide +kernel) rfl
theorem m12_95 : M12 95 [l0,l1,l2,l3,.val (.int v),l5,l6] st H Q = M12 97 [l0,l1,l2,l3,.val (.int v),l5,l6] (.int v::st) H Q:=w_x (show decode kb12 95 = .ok (.iload 4,2) from by decide +kernel) rfl
theorem m12_97 : M12 97 ls (.int y::.int x::st) H Q = M12 98 ls (.int (x + y)::st) H Q:=w_x (show decode kb12 97 = .ok (.iadd,1) from by decide +kernel) rfl
theorem m12_98u : M12 98 [l0,l1,l2,l3,l4,.unset,l6] ((.int v)::st) H Q = M12 100 [l0,l1,l2,l3,l4,.val (.int v),l6] st H Q:=w_st (i:=5) (p:=isI) (show decode kb12 98 = .ok (.istore 5,2) from by decide +kernel) rfl rfl rfl rfl rfl rfl
theorem m12_98i : M12 98 [l0,l1,l2,l3,l4,.val (.int z),l6] ((.int v)::st) H Q = M12 100 [l0,l1,l2,l3,l4,.val (.int v),l6] st H Q:=w_st (i:=5) (p:=isI) (show decode kb12 98 = .ok (.istore 5,2) from by decide +kernel) rfl rfl rfl rfl rfl rfl
theorem m12_98r : M12 98 [l0,l1,l2,l3,l4,.val (.ref q),l6] ((.int v)::st) H Q = M12 100 [l0,l1,l2,l3,l4,.val (.int v),l6] st H Q:=w_st (i:=5) (p:=isI) (show decode kb12 98 = .ok (.istore 5,2) from by decide +kernel) rfl rfl rfl rfl rfl rfl
theorem m12_98g (h : okS l5) : M12 98 [l0,l1,l2,l3,l4,l5,l6] ((.int v)::st) H Q = M12 100 [l0,l1,l2,l3,l4,.val (.int v),l6] st H Q:=by rcases h with rfl | ⟨z,rfl⟩ <;> first | exact m12_98u | exact m12_98i
theorem m12_100 : M12 100 [.val (.ref r),l1,l2,l3,l4,l5,l6] st H Q = M12 101 [.val (.ref r),l1,l2,l3,l4,l5,l6] (.ref r::st) H Q:=w_x (show decode kb12 100 = .ok (.aload_n 0,1) from by decide +kernel) rfl
theorem m12_101 : M12 101 ls (.ref (b + 1)::st) (put (b + 1) pre s A post) Q = M12 104 ls (.ref ((b + 1) + 12)::st) (put (b + 1) pre s A post) Q:=w_get (show decode kb12 101 = .ok (.getfield 43,3) from by decide +kernel) gf_43 put_o rfl
theorem m12_104 : M12 104 [l0,l1,l2,l3,l4,.val (.int v),l6] st H Q = M12 106 [l0,l1,l2,l3,l4,.val (.int v),l6] (.int v::st) H Q:=w_x (show decode kb12 104 = .ok (.iload 5,2) from by decide +kernel) rfl
theorem m12_106  : M12 106 ls (.int j::.ref ((b + 1) + 12)::st) (put (b + 1) pre s A post) Q = (inB j (A 11)∧M12 107 ls (.int (getA (A 11) j)::st) (put (b + 1) pre s A post) Q):=w_ild (show decode kb12 106 = .ok (.baload,1) from by decide +kernel) rfl put_a11
theorem m12_107 : M12 107 ls (.int x::st) H Q = if x = 0 then M12 169 ls st H Q else M12 110 ls st H Q:=w_if (show decode kb12 107 = .ok (.ifCond .eq 62,3) from by decide +kernel) (z_eq x) rfl
theorem m12_110 : M12 110 [.val (.ref r),l1,l2,l3,l4,l5,l6] st H Q = M12 111 [.val (.ref r),l1,l2,l3,l4,l5,l6] (.ref r::st) H Q:=w_x (show decode kb12 110 = .ok (.aload_n 0,1) from by decide +kernel) rfl
theorem m12_111 : M12 111 ls (.ref (b + 1)::st) (put (b + 1) pre s A post) Q = M12 114 ls (.ref ((b + 1) + 11)::st) (put (b + 1) pre s A post) Q:=w_get (show decode kb12 111 = .ok (.getfield 40,3) from by decide +kernel) gf_40 put_o rfl
theorem m12_114 : M12 114 [l0,l1,l2,l3,l4,.val (.int v),l6] st H Q = M12 116 [l0,l1,l2,l3,l4,.val (.int v),l6] (.int v::st) H Q:=w_x (show decode kb12 114 = .ok (.iload 5,2) from by decide +kernel) rfl
theorem m12_116  : M12 116 ls (.int j::.ref ((b + 1) + 11)::st) (put (b + 1) pre s A post) Q = (inB j (A 10)∧M12 117 ls (.int (getA (A 10) j)::st) (put (b + 1) pre s A post) Q):=w_ild (show decode kb12 116 = .ok (.iaload,1) from by decide +kernel) rfl put_a10
theorem m12_117 : M12 117 [.val (.ref r),l1,l2,l3,l4,l5,l6] st H Q = M12 118 [.val (.ref r),l1,l2,l3,l4,l5,l6] (.ref r::st) H Q:=w_x (show decode kb12 117 = .ok (.aload_n 0,1) from by decide +kernel) rfl
theorem m12_118 : M12 118 ls (.ref (b + 1)::st) (put (b + 1) pre s A post) Q = M12 121 ls (.ref ((b + 1) + 2)::st) (put (b + 1) pre s A post) Q:=w_get (show decode kb12 118 = .ok (.getfield 13,3) from by decide +kernel) gf_13 put_o rfl
theorem m12_121 : M12 121 [l0,l1,l2,l3,.val (.int v),l5,l6] st H Q = M12 123 [l0,l1,l2,l3,.val (.int v),l5,l6] (.int v::st) H Q:=w_x (show decode kb12 121 = .ok (.iload 4,2) from by decide +kernel) rfl
theorem m12_123  : M12 123 ls (.int j::.ref ((b + 1) + 2)::st) (put (b + 1) pre s A post) Q = (inB j (A 1)∧M12 124 ls (.int (getA (A 1) j)::st) (put (b + 1) pre s A post) Q):=w_ild (show decode kb12 123 = .ok (.iaload,1) from by decide +kernel) rfl put_a1
theorem m12_124 : M12 124 ls (.int y::.int x::st) H Q = M12 125 ls (.int (x + y)::st) H Q:=w_x (show decode kb12 124 = .ok (.iadd,1) from by decide +kernel) rfl
theorem m12_125 : M12 125 [l0,.val (.int v),l2,l3,l4,l5,l6] st H Q = M12 126 [l0,.val (.int v),l2,l3,l4,l5,l6] (.int v::st) H Q:=w_x (show decode kb12 125 = .ok (.iload_n 1,1) from by decide +kernel) rfl
theorem m12_126 : M12 126 ls (.int y::.int x::st) H Q = if y < x then M12 129 ls st H Q else M12 169 ls st H Q:=w_icmpN (show decode kb12 126 = .ok (.if_icmp .le 43,3) from by decide +kernel) (i_le x y) rfl
theorem m12_129 : M12 129 [.val (.ref r),l1,l2,l3,l4,l5,l6] st H Q = M12 130 [.val (.ref r),l1,l2,l3,l4,l5,l6] (.ref r::st) H Q:=w_x (show decode kb12 129 = .ok (.aload_n 0,1) from by decide +kernel) rfl
theorem m12_130 : M12 130 ls (.ref (b + 1)::st) (put (b + 1) pre s A post) Q = M12 133 ls (.ref ((b + 1) + 13)::st) (put (b + 1) pre s A post) Q:=w_get (show decode kb12 130 = .ok (.getfield 47,3) from by decide +kernel) gf_47 put_o rfl
theorem m12_133 : M12 133 [l0,l1,l2,l3,.val (.int v),l5,l6] st H Q = M12 135 [l0,l1,l2,l3,.val (.int v),l5,l6] (.int v::st) H Q:=w_x (show decode kb12 133 = .ok (.iload 4,2) from by decide +kernel) rfl
theorem m12_135  : M12 135 ls (.int j::.ref ((b + 1) + 13)::st) (put (b + 1) pre s A post) Q = (inB j (A 12)∧M12 136 ls (.int (getA (A 12) j)::st) (put (b + 1) pre s A post) Q):=w_ild (show decode kb12 135 = .ok (.iaload,1) from by decide +kernel) rfl put_a12
theorem m12_136 : M12 136 [.val (.ref r),l1,l2,l3,l4,l5,l6] st H Q = M12 137 [.val (.ref r),l1,l2,l3,l4,l5,l6] (.ref r::st) H Q:=w_x (show decode kb12 136 = .ok (.aload_n 0,1) from by decide +kernel) rfl
theorem m12_137 : M12 137 ls (.ref (b + 1)::st) (put (b + 1) pre s A post) Q = M12 140 ls (.ref ((b + 1) + 10)::st) (put (b + 1) pre s A post) Q:=w_get (show decode kb12 137 = .ok (.getfield 37,3) from by decide +kernel) gf_37 put_o rfl
theorem m12_140 : M12 140 [l0,l1,l2,l3,l4,.val (.int v),l6] st H Q = M12 142 [l0,l1,l2,l3,l4,.val (.int v),l6] (.int v::st) H Q:=w_x (show decode kb12 140 = .ok (.iload 5,2) from by decide +kernel) rfl
theorem m12_142  : M12 142 ls (.int j::.ref ((b + 1) + 10)::st) (put (b + 1) pre s A post) Q = (inB j (A 9)∧M12 143 ls (.int (getA (A 9) j)::st) (put (b + 1) pre s A post) Q):=w_ild (show decode kb12 142 = .ok (.iaload,1) from by decide +kernel) rfl put_a9
theorem m12_143 : M12 143 ls (.int y::.int x::st) H Q = M12 144 ls (.int (x + y)::st) H Q:=w_x (show decode kb12 143 = .ok (.iadd,1) from by decide +kernel) rfl
theorem m12_144 : M12 144 ls st H Q = M12 145 ls (.int 1::st) H Q:=w_con (show decode kb12 144 = .ok (.iconst 1,1) from by decide +kernel) rfl (by decide)
theorem m12_145 : M12 145 ls (.int y::.int x::st) H Q = M12 146 ls (.int (x - y)::st) H Q:=w_x (show decode kb12 145 = .ok (.isub,1) from by decide +kernel) rfl
theorem m12_146u : M12 146 [l0,l1,l2,l3,l4,l5,.unset] ((.int v)::st) H Q = M12 148 [l0,l1,l2,l3,l4,l5,.val (.int v)] st H Q:=w_st (i:=6) (p:=isI) (show decode kb12 146 = .ok (.istore 6,2) from by decide +kernel) rfl rfl rfl rfl rfl rfl
theorem m12_146i : M12 146 [l0,l1,l2,l3,l4,l5,.val (.int z)] ((.int v)::st) H Q = M12 148 [l0,l1,l2,l3,l4,l5,.val (.int v)] st H Q:=w_st (i:=6) (p:=isI) (show decode kb12 146 = .ok (.istore 6,2) from by decide +kernel) rfl rfl rfl rfl rfl rfl
theorem m12_146r : M12 146 [l0,l1,l2,l3,l4,l5,.val (.ref q)] ((.int v)::st) H Q = M12 148 [l0,l1,l2,l3,l4,l5,.val (.int v)] st H Q:=w_st (i:=6) (p:=isI) (show decode kb12 146 = .ok (.istore 6,2) from by decide +kernel) rfl rfl rfl rfl rfl rfl
theorem m12_146g (h : okS l6) : M12 146 [l0,l1,l2,l3,l4,l5,l6] ((.int v)::st) H Q = M12 148 [l0,l1,l2,l3,l4,l5,.val (.int v)] st H Q:=by rcases h with rfl | ⟨z,rfl⟩ <;> first | exact m12_146u | exact m12_146i
theorem m12_148 : M12 148 [l0,l1,l2,l3,l4,l5,.val (.int v)] st H Q = M12 150 [l0,l1,l2,l3,l4,l5,.val (.int v)] (.int v::st) H Q:=w_x (show decode kb12 148 = .ok (.iload 6,2) from by decide +kernel) rfl
theorem m12_150 : M12 150 [.val (.ref r),l1,l2,l3,l4,l5,l6] st H Q = M12 151 [.val (.ref r),l1,l2,l3,l4,l5,l6] (.ref r::st) H Q:=w_x (show decode kb12 150 = .ok (.aload_n 0,1) from by decide +kernel) rfl
theorem m12_151 : M12 151 ls (.ref (b + 1)::st) (put (b + 1) pre s A post) Q = M12 154 ls (.ref ((b + 1) + 13)::st) (put (b + 1) pre s A post) Q:=w_get (show decode kb12 151 = .ok (.getfield 47,3) from by decide +kernel) gf_47 put_o rfl
theorem m12_154 : M12 154 [l0,l1,l2,.val (.int v),l4,l5,l6] st H Q = M12 155 [l0,l1,l2,.val (.int v),l4,l5,l6] (.int v::st) H Q:=w_x (show decode kb12 154 = .ok (.iload_n 3,1) from by decide +kernel) rfl
theorem m12_155  : M12 155 ls (.int j::.ref ((b + 1) + 13)::st) (put (b + 1) pre s A post) Q = (inB j (A 12)∧M12 156 ls (.int (getA (A 12) j)::st) (put (b + 1) pre s A post) Q):=w_ild (show decode kb12 155 = .ok (.iaload,1) from by decide +kernel) rfl put_a12
theorem m12_156 : M12 156 ls (.int y::.int x::st) H Q = if x < y then M12 159 ls st H Q else M12 169 ls st H Q:=w_icmpN (show decode kb12 156 = .ok (.if_icmp .ge 13,3) from by decide +kernel) (i_ge x y) rfl
theorem m12_159 : M12 159 [.val (.ref r),l1,l2,l3,l4,l5,l6] st H Q = M12 160 [.val (.ref r),l1,l2,l3,l4,l5,l6] (.ref r::st) H Q:=w_x (show decode kb12 159 = .ok (.aload_n 0,1) from by decide +kernel) rfl
theorem m12_160 : M12 160 ls (.ref (b + 1)::st) (put (b + 1) pre s A post) Q = M12 163 ls (.ref ((b + 1) + 13)::st) (put (b + 1) pre s A post) Q:=w_get (show decode kb12 160 = .ok (.getfield 47,3) from by decide +kernel) gf_47 put_o rfl
theorem m12_163 : M12 163 [l0,l1,l2,.val (.int v),l4,l5,l6] st H Q = M12 164 [l0,l1,l2,.val (.int v),l4,l5,l6] (.int v::st) H Q:=w_x (show decode kb12 163 = .ok (.iload_n 3,1) from by decide +kernel) rfl
theorem m12_164 : M12 164 [l0,l1,l2,l3,l4,l5,.val (.int v)] st H Q = M12 166 [l0,l1,l2,l3,l4,l5,.val (.int v)] (.int v::st) H Q:=w_x (show decode kb12 164 = .ok (.iload 6,2) from by decide +kernel) rfl
theorem m12_166  : M12 166 ls (.int v::.int j::.ref ((b + 1) + 13)::st) (put (b + 1) pre s A post) Q = (inB j (A 12)∧M12 167 ls st (put (b + 1) pre s (ou A 12 (setA (A 12) j v)) post) Q):=w_ist (show decode kb12 166 = .ok (.iastore,1) from by decide +kernel) rfl put_a12 (by omega) rfl put_w12
theorem m12_167 : M12 167 ls st H Q = M12 168 ls (.int 1::st) H Q:=w_con (show decode kb12 167 = .ok (.iconst 1,1) from by decide +kernel) rfl (by decide)
theorem m12_168i : M12 168 [l0,l1,.val (.int z),l3,l4,l5,l6] ((.int v)::st) H Q = M12 169 [l0,l1,.val (.int v),l3,l4,l5,l6] st H Q:=w_st (i:=2) (p:=isI) (show decode kb12 168 = .ok (.istore_n 2,1) from by decide +kernel) rfl rfl rfl rfl rfl rfl
theorem m12_169 : M12 169 [l0,l1,l2,l3,.val (.int v),l5,l6] st H Q = M12 172 [l0,l1,l2,l3,.val (.int (v + 1)),l5,l6] st H Q:=w_iinc (show decode kb12 169 = .ok (.iinc 4 1,3) from by decide +kernel) rfl (by decide) rfl
theorem m12_172 : M12 172 ls st H Q = M12 82 ls st H Q:=w_x (show decode kb12 172 = .ok (.goto (-90),3) from by decide +kernel) rfl
theorem m12_175 : M12 175 [l0,l1,l2,.val (.int v),l4,l5,l6] st H Q = M12 178 [l0,l1,l2,.val (.int (v + 1)),l4,l5,l6] st H Q:=w_iinc (show decode kb12 175 = .ok (.iinc 3 1,3) from by decide +kernel) rfl (by decide) rfl
theorem m12_178 : M12 178 ls st H Q = M12 71 ls st H Q:=w_x (show decode kb12 178 = .ok (.goto (-107),3) from by decide +kernel) rfl
theorem m12_181 : M12 181 [l0,l1,.val (.int v),l3,l4,l5,l6] st H Q = M12 182 [l0,l1,.val (.int v),l3,l4,l5,l6] (.int v::st) H Q:=w_x (show decode kb12 181 = .ok (.iload_n 2,1) from by decide +kernel) rfl
theorem m12_182 : M12 182 ls (.int z::st) H Q = Q (some (.int (nar .boolean z))) H:=w_iretN (show decode kb12 182 = .ok (.ireturn,1) from by decide +kernel) rfl (by simp)
theorem m13_0 : M13 0 ls st H Q = M13 1 ls (.int 0::st) H Q:=w_con (show decode kb13 0 = .ok (.iconst 0,1) from by decide +kernel) rfl (by decide)
theorem m13_1u : M13 1 [l0,.unset] ((.int v)::st) H Q = M13 2 [l0,.val (.int v)] st H Q:=w_st (i:=1) (p:=isI) (show decode kb13 1 = .ok (.istore_n 1,1) from by decide +kernel) rfl rfl rfl rfl rfl rfl
theorem m13_2 : M13 2 [l0,.val (.int v)] st H Q = M13 3 [l0,.val (.int v)] (.int v::st) H Q:=w_x (show decode kb13 2 = .ok (.iload_n 1,1) from by decide +kernel) rfl
theorem m13_3 : M13 3 [.val (.ref r),l1] st H Q = M13 4 [.val (.ref r),l1] (.ref r::st) H Q:=w_x (show decode kb13 3 = .ok (.aload_n 0,1) from by decide +kernel) rfl
theorem m13_4 : M13 4 ls (.ref (b + 1)::st) (put (b + 1) pre s A post) Q = M13 7 ls (.int (s 0)::st) (put (b + 1) pre s A post) Q:=w_get (show decode kb13 4 = .ok (.getfield 65,3) from by decide +kernel) gf_65 put_o rfl
theorem m13_7 : M13 7 ls (.int y::.int x::st) H Q = if x < y then M13 10 ls st H Q else M13 35 ls st H Q:=w_icmpN (show decode kb13 7 = .ok (.if_icmp .ge 28,3) from by decide +kernel) (i_ge x y) rfl
theorem m13_10 : M13 10 [.val (.ref r),l1] st H Q = M13 11 [.val (.ref r),l1] (.ref r::st) H Q:=w_x (show decode kb13 10 = .ok (.aload_n 0,1) from by decide +kernel) rfl
theorem m13_11 : M13 11 ls (.ref (b + 1)::st) (put (b + 1) pre s A post) Q = M13 14 ls (.ref ((b + 1) + 14)::st) (put (b + 1) pre s A post) Q:=w_get (show decode kb13 11 = .ok (.getfield 50,3) from by decide +kernel) gf_50 put_o rfl
theorem m13_14 : M13 14 [l0,.val (.int v)] st H Q = M13 15 [l0,.val (.int v)] (.int v::st) H Q:=w_x (show decode kb13 14 = .ok (.iload_n 1,1) from by decide +kernel) rfl
theorem m13_15 : M13 15 [.val (.ref r),l1] st H Q = M13 16 [.val (.ref r),l1] (.ref r::st) H Q:=w_x (show decode kb13 15 = .ok (.aload_n 0,1) from by decide +kernel) rfl
theorem m13_16 : M13 16 ls (.ref (b + 1)::st) (put (b + 1) pre s A post) Q = M13 19 ls (.ref ((b + 1) + 13)::st) (put (b + 1) pre s A post) Q:=w_get (show decode kb13 16 = .ok (.getfield 47,3) from by decide +kernel) gf_47 put_o rfl
theorem m13_19 : M13 19 [l0,.val (.int v)] st H Q = M13 20 [l0,.val (.int v)] (.int v::st) H Q:=w_x (show decode kb13 19 = .ok (.iload_n 1,1) from by decide +kernel) rfl
theorem m13_20  : M13 20 ls (.int j::.ref ((b + 1) + 13)::st) (put (b + 1) pre s A post) Q = (inB j (A 12)∧M13 21 ls (.int (getA (A 12) j)::st) (put (b + 1) pre s A post) Q):=w_ild (show decode kb13 20 = .ok (.iaload,1) from by decide +kernel) rfl put_a12
theorem m13_21 : M13 21 [.val (.ref r),l1] st H Q = M13 22 [.val (.ref r),l1] (.ref r::st) H Q:=w_x (show decode kb13 21 = .ok (.aload_n 0,1) from by decide +kernel) rfl
theorem m13_22 : M13 22 ls (.ref (b + 1)::st) (put (b + 1) pre s A post) Q = M13 25 ls (.ref ((b + 1) + 13)::st) (put (b + 1) pre s A post) Q:=w_get (show decode kb13 22 = .ok (.getfield 47,3) from by decide +kernel) gf_47 put_o rfl
theorem m13_25 : M13 25 ls st H Q = M13 26 ls (.int 0::st) H Q:=w_con (show decode kb13 25 = .ok (.iconst 0,1) from by decide +kernel) rfl (by decide)
theorem m13_26  : M13 26 ls (.int j::.ref ((b + 1) + 13)::st) (put (b + 1) pre s A post) Q = (inB j (A 12)∧M13 27 ls (.int (getA (A 12) j)::st) (put (b + 1) pre s A post) Q):=w_ild (show decode kb13 26 = .ok (.iaload,1) from by decide +kernel) rfl put_a12
theorem m13_27 : M13 27 ls (.int y::.int x::st) H Q = M13 28 ls (.int (x - y)::st) H Q:=w_x (show decode kb13 27 = .ok (.isub,1) from by decide +kernel) rfl
theorem m13_28  : M13 28 ls (.int v::.int j::.ref ((b + 1) + 14)::st) (put (b + 1) pre s A post) Q = (inB j (A 13)∧M13 29 ls st (put (b + 1) pre s (ou A 13 (setA (A 13) j v)) post) Q):=w_ist (show decode kb13 28 = .ok (.iastore,1) from by decide +kernel) rfl put_a13 (by omega) rfl put_w13
theorem m13_29 : M13 29 [l0,.val (.int v)] st H Q = M13 32 [l0,.val (.int (v + 1))] st H Q:=w_iinc (show decode kb13 29 = .ok (.iinc 1 1,3) from by decide +kernel) rfl (by decide) rfl
theorem m13_32 : M13 32 ls st H Q = M13 2 ls st H Q:=w_x (show decode kb13 32 = .ok (.goto (-30),3) from by decide +kernel) rfl
theorem m13_35 : M13 35 ls st H Q = M13 36 ls (.int 0::st) H Q:=w_con (show decode kb13 35 = .ok (.iconst 0,1) from by decide +kernel) rfl (by decide)
theorem m13_36i : M13 36 [l0,.val (.int z)] ((.int v)::st) H Q = M13 37 [l0,.val (.int v)] st H Q:=w_st (i:=1) (p:=isI) (show decode kb13 36 = .ok (.istore_n 1,1) from by decide +kernel) rfl rfl rfl rfl rfl rfl
theorem m13_37 : M13 37 [l0,.val (.int v)] st H Q = M13 38 [l0,.val (.int v)] (.int v::st) H Q:=w_x (show decode kb13 37 = .ok (.iload_n 1,1) from by decide +kernel) rfl
theorem m13_38 : M13 38 [.val (.ref r),l1] st H Q = M13 39 [.val (.ref r),l1] (.ref r::st) H Q:=w_x (show decode kb13 38 = .ok (.aload_n 0,1) from by decide +kernel) rfl
theorem m13_39 : M13 39 ls (.ref (b + 1)::st) (put (b + 1) pre s A post) Q = M13 42 ls (.int (s 1)::st) (put (b + 1) pre s A post) Q:=w_get (show decode kb13 39 = .ok (.getfield 69,3) from by decide +kernel) gf_69 put_o rfl
theorem m13_42 : M13 42 ls (.int y::.int x::st) H Q = if x < y then M13 45 ls st H Q else M13 87 ls st H Q:=w_icmpN (show decode kb13 42 = .ok (.if_icmp .ge 45,3) from by decide +kernel) (i_ge x y) rfl
theorem m13_45 : M13 45 [.val (.ref r),l1] st H Q = M13 46 [.val (.ref r),l1] (.ref r::st) H Q:=w_x (show decode kb13 45 = .ok (.aload_n 0,1) from by decide +kernel) rfl
theorem m13_46 : M13 46 ls (.ref (b + 1)::st) (put (b + 1) pre s A post) Q = M13 49 ls (.ref ((b + 1) + 7)::st) (put (b + 1) pre s A post) Q:=w_get (show decode kb13 46 = .ok (.getfield 28,3) from by decide +kernel) gf_28 put_o rfl
theorem m13_49 : M13 49 [l0,.val (.int v)] st H Q = M13 50 [l0,.val (.int v)] (.int v::st) H Q:=w_x (show decode kb13 49 = .ok (.iload_n 1,1) from by decide +kernel) rfl
theorem m13_50 : M13 50 [.val (.ref r),l1] st H Q = M13 51 [.val (.ref r),l1] (.ref r::st) H Q:=w_x (show decode kb13 50 = .ok (.aload_n 0,1) from by decide +kernel) rfl
theorem m13_51 : M13 51 ls (.ref (b + 1)::st) (put (b + 1) pre s A post) Q = M13 54 ls (.ref ((b + 1) + 6)::st) (put (b + 1) pre s A post) Q:=w_get (show decode kb13 51 = .ok (.getfield 25,3) from by decide +kernel) gf_25 put_o rfl
theorem m13_54 : M13 54 [l0,.val (.int v)] st H Q = M13 55 [l0,.val (.int v)] (.int v::st) H Q:=w_x (show decode kb13 54 = .ok (.iload_n 1,1) from by decide +kernel) rfl
theorem m13_55  : M13 55 ls (.int j::.ref ((b + 1) + 6)::st) (put (b + 1) pre s A post) Q = (inB j (A 5)∧M13 56 ls (.int (getA (A 5) j)::st) (put (b + 1) pre s A post) Q):=w_ild (show decode kb13 55 = .ok (.iaload,1) from by decide +kernel) rfl put_a5
theorem m13_56 : M13 56 [.val (.ref r),l1] st H Q = M13 57 [.val (.ref r),l1] (.ref r::st) H Q:=w_x (show decode kb13 56 = .ok (.aload_n 0,1) from by decide +kernel) rfl
theorem m13_57 : M13 57 ls (.ref (b + 1)::st) (put (b + 1) pre s A post) Q = M13 60 ls (.ref ((b + 1) + 14)::st) (put (b + 1) pre s A post) Q:=w_get (show decode kb13 57 = .ok (.getfield 50,3) from by decide +kernel) gf_50 put_o rfl
theorem m13_60 : M13 60 [.val (.ref r),l1] st H Q = M13 61 [.val (.ref r),l1] (.ref r::st) H Q:=w_x (show decode kb13 60 = .ok (.aload_n 0,1) from by decide +kernel) rfl
theorem m13_61 : M13 61 ls (.ref (b + 1)::st) (put (b + 1) pre s A post) Q = M13 64 ls (.ref ((b + 1) + 5)::st) (put (b + 1) pre s A post) Q:=w_get (show decode kb13 61 = .ok (.getfield 22,3) from by decide +kernel) gf_22 put_o rfl
theorem m13_64 : M13 64 [l0,.val (.int v)] st H Q = M13 65 [l0,.val (.int v)] (.int v::st) H Q:=w_x (show decode kb13 64 = .ok (.iload_n 1,1) from by decide +kernel) rfl
theorem m13_65  : M13 65 ls (.int j::.ref ((b + 1) + 5)::st) (put (b + 1) pre s A post) Q = (inB j (A 4)∧M13 66 ls (.int (getA (A 4) j)::st) (put (b + 1) pre s A post) Q):=w_ild (show decode kb13 65 = .ok (.iaload,1) from by decide +kernel) rfl put_a4
theorem m13_66  : M13 66 ls (.int j::.ref ((b + 1) + 14)::st) (put (b + 1) pre s A post) Q = (inB j (A 13)∧M13 67 ls (.int (getA (A 13) j)::st) (put (b + 1) pre s A post) Q):=w_ild (show decode kb13 66 = .ok (.iaload,1) from by decide +kernel) rfl put_a13
theorem m13_67 : M13 67 ls (.int y::.int x::st) H Q = M13 68 ls (.int (x + y)::st) H Q:=w_x (show decode kb13 67 = .ok (.iadd,1) from by decide +kernel) rfl
theorem m13_68 : M13 68 [.val (.ref r),l1] st H Q = M13 69 [.val (.ref r),l1] (.ref r::st) H Q:=w_x (show decode kb13 68 = .ok (.aload_n 0,1) from by decide +kernel) rfl
theorem m13_69 : M13 69 ls (.ref (b + 1)::st) (put (b + 1) pre s A post) Q = M13 72 ls (.ref ((b + 1) + 14)::st) (put (b + 1) pre s A post) Q:=w_get (show decode kb13 69 = .ok (.getfield 50,3) from by decide +kernel) gf_50 put_o rfl
theorem m13_72 : M13 72 [.val (.ref r),l1] st H Q = M13 73 [.val (.ref r),l1] (.ref r::st) H Q:=w_x (show decode kb13 72 = .ok (.aload_n 0,1) from by decide +kernel) rfl
theorem m13_73 : M13 73 ls (.ref (b + 1)::st) (put (b + 1) pre s A post) Q = M13 76 ls (.ref ((b + 1) + 4)::st) (put (b + 1) pre s A post) Q:=w_get (show decode kb13 73 = .ok (.getfield 19,3) from by decide +kernel) gf_19 put_o rfl
theorem m13_76 : M13 76 [l0,.val (.int v)] st H Q = M13 77 [l0,.val (.int v)] (.int v::st) H Q:=w_x (show decode kb13 76 = .ok (.iload_n 1,1) from by decide +kernel) rfl
theorem m13_77  : M13 77 ls (.int j::.ref ((b + 1) + 4)::st) (put (b + 1) pre s A post) Q = (inB j (A 3)∧M13 78 ls (.int (getA (A 3) j)::st) (put (b + 1) pre s A post) Q):=w_ild (show decode kb13 77 = .ok (.iaload,1) from by decide +kernel) rfl put_a3
theorem m13_78  : M13 78 ls (.int j::.ref ((b + 1) + 14)::st) (put (b + 1) pre s A post) Q = (inB j (A 13)∧M13 79 ls (.int (getA (A 13) j)::st) (put (b + 1) pre s A post) Q):=w_ild (show decode kb13 78 = .ok (.iaload,1) from by decide +kernel) rfl put_a13
theorem m13_79 : M13 79 ls (.int y::.int x::st) H Q = M13 80 ls (.int (x - y)::st) H Q:=w_x (show decode kb13 79 = .ok (.isub,1) from by decide +kernel) rfl
theorem m13_80  : M13 80 ls (.int v::.int j::.ref ((b + 1) + 7)::st) (put (b + 1) pre s A post) Q = (inB j (A 6)∧M13 81 ls st (put (b + 1) pre s (ou A 6 (setA (A 6) j v)) post) Q):=w_ist (show decode kb13 80 = .ok (.iastore,1) from by decide +kernel) rfl put_a6 (by omega) rfl put_w6
theorem m13_81 : M13 81 [l0,.val (.int v)] st H Q = M13 84 [l0,.val (.int (v + 1))] st H Q:=w_iinc (show decode kb13 81 = .ok (.iinc 1 1,3) from by decide +kernel) rfl (by decide) rfl
theorem m13_84 : M13 84 ls st H Q = M13 37 ls st H Q:=w_x (show decode kb13 84 = .ok (.goto (-47),3) from by decide +kernel) rfl
theorem m13_87 : M13 87 ls [] H Q = Q none H:=w_vret (show decode kb13 87 = .ok (.return_,1) from by decide +kernel) rfl
theorem m14_0 : M14 0 [l0,l1,.val (.int v)] st H Q = M14 1 [l0,l1,.val (.int v)] (.int v::st) H Q:=w_x (show decode kb14 0 = .ok (.iload_n 2,1) from by decide +kernel) rfl
theorem m14_1 : M14 1 ls st H Q = M14 2 ls (.int 1::st) H Q:=w_con (show decode kb14 1 = .ok (.iconst 1,1) from by decide +kernel) rfl (by decide)
theorem m14_2 : M14 2 ls (.int y::.int x::st) H Q = if x = y then M14 5 ls st H Q else M14 12 ls st H Q:=w_icmpN (show decode kb14 2 = .ok (.if_icmp .ne 10,3) from by decide +kernel) (i_ne x y) rfl
theorem m14_5 : M14 5 [.val (.ref r),l1,l2] st H Q = M14 6 [.val (.ref r),l1,l2] (.ref r::st) H Q:=w_x (show decode kb14 5 = .ok (.aload_n 0,1) from by decide +kernel) rfl
theorem m14_6 : M14 6 ls (.ref (b + 1)::st) (put (b + 1) pre s A post) Q = M14 9 ls (.ref ((b + 1) + 7)::st) (put (b + 1) pre s A post) Q:=w_get (show decode kb14 6 = .ok (.getfield 28,3) from by decide +kernel) gf_28 put_o rfl
theorem m14_9 : M14 9 [l0,.val (.int v),l2] st H Q = M14 10 [l0,.val (.int v),l2] (.int v::st) H Q:=w_x (show decode kb14 9 = .ok (.iload_n 1,1) from by decide +kernel) rfl
theorem m14_10  : M14 10 ls (.int j::.ref ((b + 1) + 7)::st) (put (b + 1) pre s A post) Q = (inB j (A 6)∧M14 11 ls (.int (getA (A 6) j)::st) (put (b + 1) pre s A post) Q):=w_ild (show decode kb14 10 = .ok (.iaload,1) from by decide +kernel) rfl put_a6
theorem m14_11 : M14 11 ls (.int z::st) H Q = Q (some (.int z)) H:=w_iret (show decode kb14 11 = .ok (.ireturn,1) from by decide +kernel) rfl
theorem m14_12 : M14 12 [.val (.ref r),l1,l2] st H Q = M14 13 [.val (.ref r),l1,l2] (.ref r::st) H Q:=w_x (show decode kb14 12 = .ok (.aload_n 0,1) from by decide +kernel) rfl
theorem m14_13 : M14 13 ls (.ref (b + 1)::st) (put (b + 1) pre s A post) Q = M14 16 ls (.ref ((b + 1) + 6)::st) (put (b + 1) pre s A post) Q:=w_get (show decode kb14 13 = .ok (.getfield 25,3) from by decide +kernel) gf_25 put_o rfl
theorem m14_16 : M14 16 [l0,.val (.int v),l2] st H Q = M14 17 [l0,.val (.int v),l2] (.int v::st) H Q:=w_x (show decode kb14 16 = .ok (.iload_n 1,1) from by decide +kernel) rfl
theorem m14_17  : M14 17 ls (.int j::.ref ((b + 1) + 6)::st) (put (b + 1) pre s A post) Q = (inB j (A 5)∧M14 18 ls (.int (getA (A 5) j)::st) (put (b + 1) pre s A post) Q):=w_ild (show decode kb14 17 = .ok (.iaload,1) from by decide +kernel) rfl put_a5
theorem m14_18 : M14 18 ls (.int z::st) H Q = Q (some (.int z)) H:=w_iret (show decode kb14 18 = .ok (.ireturn,1) from by decide +kernel) rfl
theorem m15_0 : M15 0 [.val (.ref r)] st H Q = M15 1 [.val (.ref r)] (.ref r::st) H Q:=w_x (show decode kb15 0 = .ok (.aload_n 0,1) from by decide +kernel) rfl
theorem m15_1 : M15 1 ls st H Q = M15 2 ls (.int 0::st) H Q:=w_con (show decode kb15 1 = .ok (.iconst 0,1) from by decide +kernel) rfl (by decide)
theorem pf15_65 : pfR tables_1 y15.cls y15.name 65 = some ("RetimingEngine", 18,.int):=by decide +kernel
theorem m15_2 : M15 2 ls (.int v::.ref (b + 1)::st) (put (b + 1) pre s A post) Q = M15 5 ls st (put (b + 1) pre (ou s 0 v) A post) Q:=w_put (show decode kb15 2 = .ok (.putfield 65,3) from by decide +kernel) pf15_65 put_o (Nat.succ_le_succ (Nat.zero_le _)) (by show 18 < 26; omega) rfl put_s0
theorem m15_5 : M15 5 [.val (.ref r)] st H Q = M15 6 [.val (.ref r)] (.ref r::st) H Q:=w_x (show decode kb15 5 = .ok (.aload_n 0,1) from by decide +kernel) rfl
theorem m15_6 : M15 6 ls st H Q = M15 7 ls (.int 0::st) H Q:=w_con (show decode kb15 6 = .ok (.iconst 0,1) from by decide +kernel) rfl (by decide)
theorem pf15_69 : pfR tables_1 y15.cls y15.name 69 = some ("RetimingEngine", 19,.int):=by decide +kernel
theorem m15_7 : M15 7 ls (.int v::.ref (b + 1)::st) (put (b + 1) pre s A post) Q = M15 10 ls st (put (b + 1) pre (ou s 1 v) A post) Q:=w_put (show decode kb15 7 = .ok (.putfield 69,3) from by decide +kernel) pf15_69 put_o (Nat.succ_le_succ (Nat.zero_le _)) (by show 19 < 26; omega) rfl put_s1
theorem m15_10 : M15 10 [.val (.ref r)] st H Q = M15 11 [.val (.ref r)] (.ref r::st) H Q:=w_x (show decode kb15 10 = .ok (.aload_n 0,1) from by decide +kernel) rfl
theorem m15_11 : M15 11 ls st H Q = M15 12 ls (.int 0::st) H Q:=w_con (show decode kb15 11 = .ok (.iconst 0,1) from by decide +kernel) rfl (by decide)
theorem pf15_72 : pfR tables_1 y15.cls y15.name 72 = some ("RetimingEngine", 20,.int):=by decide +kernel
theorem m15_12 : M15 12 ls (.int v::.ref (b + 1)::st) (put (b + 1) pre s A post) Q = M15 15 ls st (put (b + 1) pre (ou s 2 v) A post) Q:=w_put (show decode kb15 12 = .ok (.putfield 72,3) from by decide +kernel) pf15_72 put_o (Nat.succ_le_succ (Nat.zero_le _)) (by show 20 < 26; omega) rfl put_s2
theorem m15_15 : M15 15 [.val (.ref r)] st H Q = M15 16 [.val (.ref r)] (.ref r::st) H Q:=w_x (show decode kb15 15 = .ok (.aload_n 0,1) from by decide +kernel) rfl
theorem m15_16 : M15 16 ls st H Q = M15 17 ls (.int 0::st) H Q:=w_con (show decode kb15 16 = .ok (.iconst 0,1) from by decide +kernel) rfl (by decide)
theorem pf15_75 : pfR tables_1 y15.cls y15.name 75 = some ("RetimingEngine", 21,.int):=by decide +kernel
theorem m15_17 : M15 17 ls (.int v::.ref (b + 1)::st) (put (b + 1) pre s A post) Q = M15 20 ls st (put (b + 1) pre (ou s 3 v) A post) Q:=w_put (show decode kb15 17 = .ok (.putfield 75,3) from by decide +kernel) pf15_75 put_o (Nat.succ_le_succ (Nat.zero_le _)) (by show 21 < 26; omega) rfl put_s3
theorem m15_20 : M15 20 [.val (.ref r)] st H Q = M15 21 [.val (.ref r)] (.ref r::st) H Q:=w_x (show decode kb15 20 = .ok (.aload_n 0,1) from by decide +kernel) rfl
theorem m15_21 : M15 21 ls st H Q = M15 22 ls (.int 0::st) H Q:=w_con (show decode kb15 21 = .ok (.iconst 0,1) from by decide +kernel) rfl (by decide)
theorem pf15_78 : pfR tables_1 y15.cls y15.name 78 = some ("RetimingEngine", 22,.boolean):=by decide +kernel
theorem m15_22 : M15 22 ls (.int v::.ref (b + 1)::st) (put (b + 1) pre s A post) Q = M15 25 ls st (put (b + 1) pre (ou s 4 (nar .boolean v)) A post) Q:=w_put (show decode kb15 22 = .ok (.putfield 78,3) from by decide +kernel) pf15_78 put_o (Nat.succ_le_succ (Nat.zero_le _)) (by show 22 < 26; omega) rfl put_s4
theorem m15_25 : M15 25 ls [] H Q = Q none H:=w_vret (show decode kb15 25 = .ok (.return_,1) from by decide +kernel) rfl
theorem m16_0 : M16 0 [.val (.ref r)] st H Q = M16 1 [.val (.ref r)] (.ref r::st) H Q:=w_x (show decode kb16 0 = .ok (.aload_n 0,1) from by decide +kernel) rfl
theorem m16_1 : M16 1 ls (.ref (b + 1)::st) (put (b + 1) pre s A post) Q = M16 4 ls (.int (s 1)::st) (put (b + 1) pre s A post) Q:=w_get (show decode kb16 1 = .ok (.getfield 69,3) from by decide +kernel) gf_69 put_o rfl
theorem m16_4 : M16 4 ls (.int z::st) H Q = Q (some (.int z)) H:=w_iret (show decode kb16 4 = .ok (.ireturn,1) from by decide +kernel) rfl
theorem m17_0 : M17 0 [.val (.ref r)] st H Q = M17 1 [.val (.ref r)] (.ref r::st) H Q:=w_x (show decode kb17 0 = .ok (.aload_n 0,1) from by decide +kernel) rfl
theorem m17_1 : M17 1 ls (.ref (b + 1)::st) (put (b + 1) pre s A post) Q = M17 4 ls (.int (s 4)::st) (put (b + 1) pre s A post) Q:=w_get (show decode kb17 1 = .ok (.getfield 78,3) from by decide +kernel) gf_78 put_o rfl
theorem m17_4 : M17 4 ls (.int x::st) H Q = if x = 0 then M17 7 ls st H Q else M17 10 ls st H Q:=w_ifN (show decode kb17 4 = .ok (.ifCond .ne 6,3) from by decide +kernel) (z_ne x) rfl
theorem m17_7 : M17 7 ls st H Q = M17 9 ls (.int (-6)::st) H Q:=w_con (show decode kb17 7 = .ok (.bipush (-6),2) from by decide +kernel) rfl (by decide)
theorem m17_9 : M17 9 ls (.int z::st) H Q = Q (some (.int z)) H:=w_iret (show decode kb17 9 = .ok (.ireturn,1) from by decide +kernel) rfl
theorem m17_10 : M17 10 [.val (.ref r)] st H Q = M17 11 [.val (.ref r)] (.ref r::st) H Q:=w_x (show decode kb17 10 = .ok (.aload_n 0,1) from by decide +kernel) rfl
theorem m17_11 : M17 11 ls (.ref (b + 1)::st) (put (b + 1) pre s A post) Q = M17 14 ls (.int (s 5)::st) (put (b + 1) pre s A post) Q:=w_get (show decode kb17 11 = .ok (.getfield 82,3) from by decide +kernel) gf_82 put_o rfl
theorem m17_14 : M17 14 ls (.int z::st) H Q = Q (some (.int z)) H:=w_iret (show decode kb17 14 = .ok (.ireturn,1) from by decide +kernel) rfl
theorem m18_0 : M18 0 [.val (.ref r)] st H Q = M18 1 [.val (.ref r)] (.ref r::st) H Q:=w_x (show decode kb18 0 = .ok (.aload_n 0,1) from by decide +kernel) rfl
theorem m18_1 : M18 1 ls (.ref (b + 1)::st) (put (b + 1) pre s A post) Q = M18 4 ls (.int (s 4)::st) (put (b + 1) pre s A post) Q:=w_get (show decode kb18 1 = .ok (.getfield 78,3) from by decide +kernel) gf_78 put_o rfl
theorem m18_4 : M18 4 ls (.int x::st) H Q = if x = 0 then M18 7 ls st H Q else M18 10 ls st H Q:=w_ifN (show decode kb18 4 = .ok (.ifCond .ne 6,3) from by decide +kernel) (z_ne x) rfl
theorem m18_7 : M18 7 ls st H Q = M18 9 ls (.int (-6)::st) H Q:=w_con (show decode kb18 7 = .ok (.bipush (-6),2) from by decide +kernel) rfl (by decide)
theorem m18_9 : M18 9 ls (.int z::st) H Q = Q (some (.int z)) H:=w_iret (show decode kb18 9 = .ok (.ireturn,1) from by decide +kernel) rfl
theorem m18_10 : M18 10 [.val (.ref r)] st H Q = M18 11 [.val (.ref r)] (.ref r::st) H Q:=w_x (show decode kb18 10 = .ok (.aload_n 0,1) from by decide +kernel) rfl
theorem m18_11 : M18 11 ls (.ref (b + 1)::st) (put (b + 1) pre s A post) Q = M18 14 ls (.int (s 6)::st) (put (b + 1) pre s A post) Q:=w_get (show decode kb18 11 = .ok (.getfield 93,3) from by decide +kernel) gf_93 put_o rfl
theorem m18_14 : M18 14 ls (.int z::st) H Q = Q (some (.int z)) H:=w_iret (show decode kb18 14 = .ok (.ireturn,1) from by decide +kernel) rfl
theorem m19_0 : M19 0 [.val (.ref r)] st H Q = M19 1 [.val (.ref r)] (.ref r::st) H Q:=w_x (show decode kb19 0 = .ok (.aload_n 0,1) from by decide +kernel) rfl
theorem m19_1 : M19 1 ls (.ref (b + 1)::st) (put (b + 1) pre s A post) Q = M19 4 ls (.int (s 4)::st) (put (b + 1) pre s A post) Q:=w_get (show decode kb19 1 = .ok (.getfield 78,3) from by decide +kernel) gf_78 put_o rfl
theorem m19_4 : M19 4 ls (.int x::st) H Q = if x = 0 then M19 7 ls st H Q else M19 10 ls st H Q:=w_ifN (show decode kb19 4 = .ok (.ifCond .ne 6,3) from by decide +kernel) (z_ne x) rfl
theorem m19_7 : M19 7 ls st H Q = M19 9 ls (.int (-6)::st) H Q:=w_con (show decode kb19 7 = .ok (.bipush (-6),2) from by decide +kernel) rfl (by decide)
theorem m19_9 : M19 9 ls (.int z::st) H Q = Q (some (.int z)) H:=w_iret (show decode kb19 9 = .ok (.ireturn,1) from by decide +kernel) rfl
theorem m19_10 : M19 10 [.val (.ref r)] st H Q = M19 11 [.val (.ref r)] (.ref r::st) H Q:=w_x (show decode kb19 10 = .ok (.aload_n 0,1) from by decide +kernel) rfl
theorem m19_11 : M19 11 ls (.ref (b + 1)::st) (put (b + 1) pre s A post) Q = M19 14 ls (.int (s 7)::st) (put (b + 1) pre s A post) Q:=w_get (show decode kb19 11 = .ok (.getfield 109,3) from by decide +kernel) gf_109 put_o rfl
theorem m19_14 : M19 14 ls (.int z::st) H Q = Q (some (.int z)) H:=w_iret (show decode kb19 14 = .ok (.ireturn,1) from by decide +kernel) rfl
theorem m20_0 : M20 0 [.val (.ref r),l1] st H Q = M20 1 [.val (.ref r),l1] (.ref r::st) H Q:=w_x (show decode kb20 0 = .ok (.aload_n 0,1) from by decide +kernel) rfl
theorem m20_1 : M20 1 ls (.ref (b + 1)::st) (put (b + 1) pre s A post) Q = M20 4 ls (.int (s 4)::st) (put (b + 1) pre s A post) Q:=w_get (show decode kb20 1 = .ok (.getfield 78,3) from by decide +kernel) gf_78 put_o rfl
theorem m20_4 : M20 4 ls (.int x::st) H Q = if x = 0 then M20 19 ls st H Q else M20 7 ls st H Q:=w_if (show decode kb20 4 = .ok (.ifCond .eq 15,3) from by decide +kernel) (z_eq x) rfl
theorem m20_7 : M20 7 [l0,.val (.int v)] st H Q = M20 8 [l0,.val (.int v)] (.int v::st) H Q:=w_x (show decode kb20 7 = .ok (.iload_n 1,1) from by decide +kernel) rfl
theorem m20_8 : M20 8 ls (.int x::st) H Q = if x < 0 then M20 19 ls st H Q else M20 11 ls st H Q:=w_if (show decode kb20 8 = .ok (.ifCond .lt 11,3) from by decide +kernel) (z_lt x) rfl
theorem m20_11 : M20 11 [l0,.val (.int v)] st H Q = M20 12 [l0,.val (.int v)] (.int v::st) H Q:=w_x (show decode kb20 11 = .ok (.iload_n 1,1) from by decide +kernel) rfl
theorem m20_12 : M20 12 [.val (.ref r),l1] st H Q = M20 13 [.val (.ref r),l1] (.ref r::st) H Q:=w_x (show decode kb20 12 = .ok (.aload_n 0,1) from by decide +kernel) rfl
theorem m20_13 : M20 13 ls (.ref (b + 1)::st) (put (b + 1) pre s A post) Q = M20 16 ls (.int (s 0)::st) (put (b + 1) pre s A post) Q:=w_get (show decode kb20 13 = .ok (.getfield 65,3) from by decide +kernel) gf_65 put_o rfl
theorem m20_16 : M20 16 ls (.int y::.int x::st) H Q = if x < y then M20 22 ls st H Q else M20 19 ls st H Q:=w_icmp (show decode kb20 16 = .ok (.if_icmp .lt 6,3) from by decide +kernel) (i_lt x y) rfl
theorem m20_19 : M20 19 ls st H Q = M20 21 ls (.int (-2147483648)::st) H Q:=w_ldc (show decode kb20 19 = .ok (.ldc 116,2) from by decide +kernel) (by decide +kernel)
theorem m20_21 : M20 21 ls (.int z::st) H Q = Q (some (.int z)) H:=w_iret (show decode kb20 21 = .ok (.ireturn,1) from by decide +kernel) rfl
theorem m20_22 : M20 22 [.val (.ref r),l1] st H Q = M20 23 [.val (.ref r),l1] (.ref r::st) H Q:=w_x (show decode kb20 22 = .ok (.aload_n 0,1) from by decide +kernel) rfl
theorem m20_23 : M20 23 ls (.ref (b + 1)::st) (put (b + 1) pre s A post) Q = M20 26 ls (.ref ((b + 1) + 14)::st) (put (b + 1) pre s A post) Q:=w_get (show decode kb20 23 = .ok (.getfield 50,3) from by decide +kernel) gf_50 put_o rfl
theorem m20_26 : M20 26 [l0,.val (.int v)] st H Q = M20 27 [l0,.val (.int v)] (.int v::st) H Q:=w_x (show decode kb20 26 = .ok (.iload_n 1,1) from by decide +kernel) rfl
theorem m20_27  : M20 27 ls (.int j::.ref ((b + 1) + 14)::st) (put (b + 1) pre s A post) Q = (inB j (A 13)∧M20 28 ls (.int (getA (A 13) j)::st) (put (b + 1) pre s A post) Q):=w_ild (show decode kb20 27 = .ok (.iaload,1) from by decide +kernel) rfl put_a13
theorem m20_28 : M20 28 ls (.int z::st) H Q = Q (some (.int z)) H:=w_iret (show decode kb20 28 = .ok (.ireturn,1) from by decide +kernel) rfl
theorem m21_0 : M21 0 [.val (.ref r),l1] st H Q = M21 1 [.val (.ref r),l1] (.ref r::st) H Q:=w_x (show decode kb21 0 = .ok (.aload_n 0,1) from by decide +kernel) rfl
theorem m21_1 : M21 1 ls (.ref (b + 1)::st) (put (b + 1) pre s A post) Q = M21 4 ls (.int (s 4)::st) (put (b + 1) pre s A post) Q:=w_get (show decode kb21 1 = .ok (.getfield 78,3) from by decide +kernel) gf_78 put_o rfl
theorem m21_4 : M21 4 ls (.int x::st) H Q = if x = 0 then M21 7 ls st H Q else M21 10 ls st H Q:=w_ifN (show decode kb21 4 = .ok (.ifCond .ne 6,3) from by decide +kernel) (z_ne x) rfl
theorem m21_7 : M21 7 ls st H Q = M21 9 ls (.int (-6)::st) H Q:=w_con (show decode kb21 7 = .ok (.bipush (-6),2) from by decide +kernel) rfl (by decide)
theorem m21_9 : M21 9 ls (.int z::st) H Q = Q (some (.int z)) H:=w_iret (show decode kb21 9 = .ok (.ireturn,1) from by decide +kernel) rfl
theorem m21_10 : M21 10 [l0,.val (.int v)] st H Q = M21 11 [l0,.val (.int v)] (.int v::st) H Q:=w_x (show decode kb21 10 = .ok (.iload_n 1,1) from by decide +kernel) rfl
theorem m21_11 : M21 11 ls (.int x::st) H Q = if x < 0 then M21 22 ls st H Q else M21 14 ls st H Q:=w_if (show decode kb21 11 = .ok (.ifCond .lt 11,3) from by decide +kernel) (z_lt x) rfl
theorem m21_14 : M21 14 [l0,.val (.int v)] st H Q = M21 15 [l0,.val (.int v)] (.int v::st) H Q:=w_x (show decode kb21 14 = .ok (.iload_n 1,1) from by decide +kernel) rfl
theorem m21_15 : M21 15 [.val (.ref r),l1] st H Q = M21 16 [.val (.ref r),l1] (.ref r::st) H Q:=w_x (show decode kb21 15 = .ok (.aload_n 0,1) from by decide +kernel) rfl
theorem m21_16 : M21 16 ls (.ref (b + 1)::st) (put (b + 1) pre s A post) Q = M21 19 ls (.int (s 1)::st) (put (b + 1) pre s A post) Q:=w_get (show decode kb21 16 = .ok (.getfield 69,3) from by decide +kernel) gf_69 put_o rfl
theorem m21_19 : M21 19 ls (.int y::.int x::st) H Q = if x < y then M21 25 ls st H Q else M21 22 ls st H Q:=w_icmp (show decode kb21 19 = .ok (.if_icmp .lt 6,3) from by decide +kernel) (i_lt x y) rfl
theorem m21_22 : M21 22 ls st H Q = M21 24 ls (.int (-2)::st) H Q:=w_con (show decode kb21 22 = .ok (.bipush (-2),2) from by decide +kernel) rfl (by decide)
theorem m21_24 : M21 24 ls (.int z::st) H Q = Q (some (.int z)) H:=w_iret (show decode kb21 24 = .ok (.ireturn,1) from by decide +kernel) rfl
theorem m21_25 : M21 25 [.val (.ref r),l1] st H Q = M21 26 [.val (.ref r),l1] (.ref r::st) H Q:=w_x (show decode kb21 25 = .ok (.aload_n 0,1) from by decide +kernel) rfl
theorem m21_26 : M21 26 ls (.ref (b + 1)::st) (put (b + 1) pre s A post) Q = M21 29 ls (.ref ((b + 1) + 7)::st) (put (b + 1) pre s A post) Q:=w_get (show decode kb21 26 = .ok (.getfield 28,3) from by decide +kernel) gf_28 put_o rfl
theorem m21_29 : M21 29 [l0,.val (.int v)] st H Q = M21 30 [l0,.val (.int v)] (.int v::st) H Q:=w_x (show decode kb21 29 = .ok (.iload_n 1,1) from by decide +kernel) rfl
theorem m21_30  : M21 30 ls (.int j::.ref ((b + 1) + 7)::st) (put (b + 1) pre s A post) Q = (inB j (A 6)∧M21 31 ls (.int (getA (A 6) j)::st) (put (b + 1) pre s A post) Q):=w_ild (show decode kb21 30 = .ok (.iaload,1) from by decide +kernel) rfl put_a6
theorem m21_31 : M21 31 ls (.int z::st) H Q = Q (some (.int z)) H:=w_iret (show decode kb21 31 = .ok (.ireturn,1) from by decide +kernel) rfl
theorem m22_0 : M22 0 [.val (.ref r),l1,l2,l3] st H Q = M22 1 [.val (.ref r),l1,l2,l3] (.ref r::st) H Q:=w_x (show decode kb22 0 = .ok (.aload_n 0,1) from by decide +kernel) rfl
theorem m22_1 : M22 1 [l0,.val (.int v),l2,l3] st H Q = M22 2 [l0,.val (.int v),l2,l3] (.int v::st) H Q:=w_x (show decode kb22 1 = .ok (.iload_n 1,1) from by decide +kernel) rfl
theorem m22_2 : M22 2 [l0,l1,.val (.int v),l3] st H Q = M22 3 [l0,l1,.val (.int v),l3] (.int v::st) H Q:=w_x (show decode kb22 2 = .ok (.iload_n 2,1) from by decide +kernel) rfl
theorem cr22_112 : vR tables_1 dn y22 112 = some (true,y23,prog_1_method_18_code,3,(some .int),2,0):=pR_of (cR_of (by decide +kernel) rc_23 dn_23 dn_22 (sig:=⟨[.int,.int],some .int⟩) (by decide +kernel) (by decide +kernel) rfl rfl) (by decide +kernel) (by decide +kernel)
theorem m22_3 (a0 : Int32) (a1 : Int32) : M22 3 ls [.int a1,.int a0,.ref (b + 1)] (put (b + 1) pre s A post) Q = M23 0 [.val (.ref (b + 1)),.val (.int a0),.val (.int a1)] [] (put (b + 1) pre s A post) (fun v H1 => M22 6 ls (v.toList ++ []) H1 Q):=w_virt (as:=[.int a1,.int a0]) (rest:=[]) (a:=(b + 1)) (show decode kb22 3 = .ok (.invokevirtual 112,3) from by decide +kernel) cr22_112 put_o rfl rfl (Nat.le_of_ble_eq_true rfl) (by show 3≤3; omega) rfl
theorem m22_6u : M22 6 [l0,l1,l2,.unset] ((.int v)::st) H Q = M22 7 [l0,l1,l2,.val (.int v)] st H Q:=w_st (i:=3) (p:=isI) (show decode kb22 6 = .ok (.istore_n 3,1) from by decide +kernel) rfl rfl rfl rfl rfl rfl
theorem m22_7 : M22 7 [l0,l1,l2,.val (.int v)] st H Q = M22 8 [l0,l1,l2,.val (.int v)] (.int v::st) H Q:=w_x (show decode kb22 7 = .ok (.iload_n 3,1) from by decide +kernel) rfl
theorem m22_8 : M22 8 ls (.int x::st) H Q = if x = 0 then M22 13 ls st H Q else M22 11 ls st H Q:=w_if (show decode kb22 8 = .ok (.ifCond .eq 5,3) from by decide +kernel) (z_eq x) rfl
theorem m22_11 : M22 11 [l0,l1,l2,.val (.int v)] st H Q = M22 12 [l0,l1,l2,.val (.int v)] (.int v::st) H Q:=w_x (show decode kb22 11 = .ok (.iload_n 3,1) from by decide +kernel) rfl
theorem m22_12 : M22 12 ls (.int z::st) H Q = Q (some (.int z)) H:=w_iret (show decode kb22 12 = .ok (.ireturn,1) from by decide +kernel) rfl
theorem m22_13 : M22 13 [.val (.ref r),l1,l2,l3] st H Q = M22 14 [.val (.ref r),l1,l2,l3] (.ref r::st) H Q:=w_x (show decode kb22 13 = .ok (.aload_n 0,1) from by decide +kernel) rfl
theorem m22_14 : M22 14 ls (.ref (b + 1)::st) (put (b + 1) pre s A post) Q = M22 17 ls (.ref ((b + 1) + 10)::st) (put (b + 1) pre s A post) Q:=w_get (show decode kb22 14 = .ok (.getfield 37,3) from by decide +kernel) gf_37 put_o rfl
theorem m22_17 : M22 17 [l0,.val (.int v),l2,l3] st H Q = M22 18 [l0,.val (.int v),l2,l3] (.int v::st) H Q:=w_x (show decode kb22 17 = .ok (.iload_n 1,1) from by decide +kernel) rfl
theorem m22_18 : M22 18 ls st H Q = M22 20 ls (.int 32::st) H Q:=w_con (show decode kb22 18 = .ok (.bipush 32,2) from by decide +kernel) rfl (by decide)
theorem m22_20 : M22 20 ls (.int y::.int x::st) H Q = M22 21 ls (.int (x * y)::st) H Q:=w_x (show decode kb22 20 = .ok (.imul,1) from by decide +kernel) rfl
theorem m22_21 : M22 21 [l0,l1,.val (.int v),l3] st H Q = M22 22 [l0,l1,.val (.int v),l3] (.int v::st) H Q:=w_x (show decode kb22 21 = .ok (.iload_n 2,1) from by decide +kernel) rfl
theorem m22_22 : M22 22 ls (.int y::.int x::st) H Q = M22 23 ls (.int (x + y)::st) H Q:=w_x (show decode kb22 22 = .ok (.iadd,1) from by decide +kernel) rfl
theorem m22_23  : M22 23 ls (.int j::.ref ((b + 1) + 10)::st) (put (b + 1) pre s A post) Q = (inB j (A 9)∧M22 24 ls (.int (getA (A 9) j)::st) (put (b + 1) pre s A post) Q):=w_ild (show decode kb22 23 = .ok (.iaload,1) from by decide +kernel) rfl put_a9
theorem m22_24 : M22 24 ls (.int z::st) H Q = Q (some (.int z)) H:=w_iret (show decode kb22 24 = .ok (.ireturn,1) from by decide +kernel) rfl
theorem m23_0 : M23 0 [.val (.ref r),l1,l2] st H Q = M23 1 [.val (.ref r),l1,l2] (.ref r::st) H Q:=w_x (show decode kb23 0 = .ok (.aload_n 0,1) from by decide +kernel) rfl
theorem m23_1 : M23 1 ls (.ref (b + 1)::st) (put (b + 1) pre s A post) Q = M23 4 ls (.int (s 4)::st) (put (b + 1) pre s A post) Q:=w_get (show decode kb23 1 = .ok (.getfield 78,3) from by decide +kernel) gf_78 put_o rfl
theorem m23_4 : M23 4 ls (.int x::st) H Q = if x = 0 then M23 7 ls st H Q else M23 10 ls st H Q:=w_ifN (show decode kb23 4 = .ok (.ifCond .ne 6,3) from by decide +kernel) (z_ne x) rfl
theorem m23_7 : M23 7 ls st H Q = M23 9 ls (.int (-6)::st) H Q:=w_con (show decode kb23 7 = .ok (.bipush (-6),2) from by decide +kernel) rfl (by decide)
theorem m23_9 : M23 9 ls (.int z::st) H Q = Q (some (.int z)) H:=w_iret (show decode kb23 9 = .ok (.ireturn,1) from by decide +kernel) rfl
theorem m23_10 : M23 10 [l0,.val (.int v),l2] st H Q = M23 11 [l0,.val (.int v),l2] (.int v::st) H Q:=w_x (show decode kb23 10 = .ok (.iload_n 1,1) from by decide +kernel) rfl
theorem m23_11 : M23 11 ls (.int x::st) H Q = if x < 0 then M23 34 ls st H Q else M23 14 ls st H Q:=w_if (show decode kb23 11 = .ok (.ifCond .lt 23,3) from by decide +kernel) (z_lt x) rfl
theorem m23_14 : M23 14 [l0,.val (.int v),l2] st H Q = M23 15 [l0,.val (.int v),l2] (.int v::st) H Q:=w_x (show decode kb23 14 = .ok (.iload_n 1,1) from by decide +kernel) rfl
theorem m23_15 : M23 15 [.val (.ref r),l1,l2] st H Q = M23 16 [.val (.ref r),l1,l2] (.ref r::st) H Q:=w_x (show decode kb23 15 = .ok (.aload_n 0,1) from by decide +kernel) rfl
theorem m23_16 : M23 16 ls (.ref (b + 1)::st) (put (b + 1) pre s A post) Q = M23 19 ls (.int (s 0)::st) (put (b + 1) pre s A post) Q:=w_get (show decode kb23 16 = .ok (.getfield 65,3) from by decide +kernel) gf_65 put_o rfl
theorem m23_19 : M23 19 ls (.int y::.int x::st) H Q = if x < y then M23 22 ls st H Q else M23 34 ls st H Q:=w_icmpN (show decode kb23 19 = .ok (.if_icmp .ge 15,3) from by decide +kernel) (i_ge x y) rfl
theorem m23_22 : M23 22 [l0,l1,.val (.int v)] st H Q = M23 23 [l0,l1,.val (.int v)] (.int v::st) H Q:=w_x (show decode kb23 22 = .ok (.iload_n 2,1) from by decide +kernel) rfl
theorem m23_23 : M23 23 ls (.int x::st) H Q = if x < 0 then M23 34 ls st H Q else M23 26 ls st H Q:=w_if (show decode kb23 23 = .ok (.ifCond .lt 11,3) from by decide +kernel) (z_lt x) rfl
theorem m23_26 : M23 26 [l0,l1,.val (.int v)] st H Q = M23 27 [l0,l1,.val (.int v)] (.int v::st) H Q:=w_x (show decode kb23 26 = .ok (.iload_n 2,1) from by decide +kernel) rfl
theorem m23_27 : M23 27 [.val (.ref r),l1,l2] st H Q = M23 28 [.val (.ref r),l1,l2] (.ref r::st) H Q:=w_x (show decode kb23 27 = .ok (.aload_n 0,1) from by decide +kernel) rfl
theorem m23_28 : M23 28 ls (.ref (b + 1)::st) (put (b + 1) pre s A post) Q = M23 31 ls (.int (s 0)::st) (put (b + 1) pre s A post) Q:=w_get (show decode kb23 28 = .ok (.getfield 65,3) from by decide +kernel) gf_65 put_o rfl
theorem m23_31 : M23 31 ls (.int y::.int x::st) H Q = if x < y then M23 37 ls st H Q else M23 34 ls st H Q:=w_icmp (show decode kb23 31 = .ok (.if_icmp .lt 6,3) from by decide +kernel) (i_lt x y) rfl
theorem m23_34 : M23 34 ls st H Q = M23 36 ls (.int (-2)::st) H Q:=w_con (show decode kb23 34 = .ok (.bipush (-2),2) from by decide +kernel) rfl (by decide)
theorem m23_36 : M23 36 ls (.int z::st) H Q = Q (some (.int z)) H:=w_iret (show decode kb23 36 = .ok (.ireturn,1) from by decide +kernel) rfl
theorem m23_37 : M23 37 [.val (.ref r),l1,l2] st H Q = M23 38 [.val (.ref r),l1,l2] (.ref r::st) H Q:=w_x (show decode kb23 37 = .ok (.aload_n 0,1) from by decide +kernel) rfl
theorem m23_38 : M23 38 ls (.ref (b + 1)::st) (put (b + 1) pre s A post) Q = M23 41 ls (.ref ((b + 1) + 12)::st) (put (b + 1) pre s A post) Q:=w_get (show decode kb23 38 = .ok (.getfield 43,3) from by decide +kernel) gf_43 put_o rfl
theorem m23_41 : M23 41 [l0,.val (.int v),l2] st H Q = M23 42 [l0,.val (.int v),l2] (.int v::st) H Q:=w_x (show decode kb23 41 = .ok (.iload_n 1,1) from by decide +kernel) rfl
theorem m23_42 : M23 42 ls st H Q = M23 44 ls (.int 32::st) H Q:=w_con (show decode kb23 42 = .ok (.bipush 32,2) from by decide +kernel) rfl (by decide)
theorem m23_44 : M23 44 ls (.int y::.int x::st) H Q = M23 45 ls (.int (x * y)::st) H Q:=w_x (show decode kb23 44 = .ok (.imul,1) from by decide +kernel) rfl
theorem m23_45 : M23 45 [l0,l1,.val (.int v)] st H Q = M23 46 [l0,l1,.val (.int v)] (.int v::st) H Q:=w_x (show decode kb23 45 = .ok (.iload_n 2,1) from by decide +kernel) rfl
theorem m23_46 : M23 46 ls (.int y::.int x::st) H Q = M23 47 ls (.int (x + y)::st) H Q:=w_x (show decode kb23 46 = .ok (.iadd,1) from by decide +kernel) rfl
theorem m23_47  : M23 47 ls (.int j::.ref ((b + 1) + 12)::st) (put (b + 1) pre s A post) Q = (inB j (A 11)∧M23 48 ls (.int (getA (A 11) j)::st) (put (b + 1) pre s A post) Q):=w_ild (show decode kb23 47 = .ok (.baload,1) from by decide +kernel) rfl put_a11
theorem m23_48 : M23 48 ls (.int x::st) H Q = if x = 0 then M23 51 ls st H Q else M23 53 ls st H Q:=w_ifN (show decode kb23 48 = .ok (.ifCond .ne 5,3) from by decide +kernel) (z_ne x) rfl
theorem m23_51 : M23 51 ls st H Q = M23 52 ls (.int (-1)::st) H Q:=w_con (show decode kb23 51 = .ok (.iconst (-1),1) from by decide +kernel) rfl (by decide)
theorem m23_52 : M23 52 ls (.int z::st) H Q = Q (some (.int z)) H:=w_iret (show decode kb23 52 = .ok (.ireturn,1) from by decide +kernel) rfl
theorem m23_53 : M23 53 ls st H Q = M23 54 ls (.int 0::st) H Q:=w_con (show decode kb23 53 = .ok (.iconst 0,1) from by decide +kernel) rfl (by decide)
theorem m23_54 : M23 54 ls (.int z::st) H Q = Q (some (.int z)) H:=w_iret (show decode kb23 54 = .ok (.ireturn,1) from by decide +kernel) rfl
theorem m24_0 : M24 0 [.val (.ref r),l1,l2,l3] st H Q = M24 1 [.val (.ref r),l1,l2,l3] (.ref r::st) H Q:=w_x (show decode kb24 0 = .ok (.aload_n 0,1) from by decide +kernel) rfl
theorem m24_1 : M24 1 [l0,.val (.int v),l2,l3] st H Q = M24 2 [l0,.val (.int v),l2,l3] (.int v::st) H Q:=w_x (show decode kb24 1 = .ok (.iload_n 1,1) from by decide +kernel) rfl
theorem m24_2 : M24 2 [l0,l1,.val (.int v),l3] st H Q = M24 3 [l0,l1,.val (.int v),l3] (.int v::st) H Q:=w_x (show decode kb24 2 = .ok (.iload_n 2,1) from by decide +kernel) rfl
theorem cr24_112 : vR tables_1 dn y24 112 = some (true,y23,prog_1_method_18_code,3,(some .int),2,0):=pR_of (cR_of (by decide +kernel) rc_23 dn_23 dn_24 (sig:=⟨[.int,.int],some .int⟩) (by decide +kernel) (by decide +kernel) rfl rfl) (by decide +kernel) (by decide +kernel)
theorem m24_3 (a0 : Int32) (a1 : Int32) : M24 3 ls [.int a1,.int a0,.ref (b + 1)] (put (b + 1) pre s A post) Q = M23 0 [.val (.ref (b + 1)),.val (.int a0),.val (.int a1)] [] (put (b + 1) pre s A post) (fun v H1 => M24 6 ls (v.toList ++ []) H1 Q):=w_virt (as:=[.int a1,.int a0]) (rest:=[]) (a:=(b + 1)) (show decode kb24 3 = .ok (.invokevirtual 112,3) from by decide +kernel) cr24_112 put_o rfl rfl (Nat.le_of_ble_eq_true rfl) (by show 3≤3; omega) rfl
theorem m24_6u : M24 6 [l0,l1,l2,.unset] ((.int v)::st) H Q = M24 7 [l0,l1,l2,.val (.int v)] st H Q:=w_st (i:=3) (p:=isI) (show decode kb24 6 = .ok (.istore_n 3,1) from by decide +kernel) rfl rfl rfl rfl rfl rfl
theorem m24_7 : M24 7 [l0,l1,l2,.val (.int v)] st H Q = M24 8 [l0,l1,l2,.val (.int v)] (.int v::st) H Q:=w_x (show decode kb24 7 = .ok (.iload_n 3,1) from by decide +kernel) rfl
theorem m24_8 : M24 8 ls (.int x::st) H Q = if x = 0 then M24 13 ls st H Q else M24 11 ls st H Q:=w_if (show decode kb24 8 = .ok (.ifCond .eq 5,3) from by decide +kernel) (z_eq x) rfl
theorem m24_11 : M24 11 [l0,l1,l2,.val (.int v)] st H Q = M24 12 [l0,l1,l2,.val (.int v)] (.int v::st) H Q:=w_x (show decode kb24 11 = .ok (.iload_n 3,1) from by decide +kernel) rfl
theorem m24_12 : M24 12 ls (.int z::st) H Q = Q (some (.int z)) H:=w_iret (show decode kb24 12 = .ok (.ireturn,1) from by decide +kernel) rfl
theorem m24_13 : M24 13 [.val (.ref r),l1,l2,l3] st H Q = M24 14 [.val (.ref r),l1,l2,l3] (.ref r::st) H Q:=w_x (show decode kb24 13 = .ok (.aload_n 0,1) from by decide +kernel) rfl
theorem m24_14 : M24 14 ls (.ref (b + 1)::st) (put (b + 1) pre s A post) Q = M24 17 ls (.ref ((b + 1) + 11)::st) (put (b + 1) pre s A post) Q:=w_get (show decode kb24 14 = .ok (.getfield 40,3) from by decide +kernel) gf_40 put_o rfl
theorem m24_17 : M24 17 [l0,.val (.int v),l2,l3] st H Q = M24 18 [l0,.val (.int v),l2,l3] (.int v::st) H Q:=w_x (show decode kb24 17 = .ok (.iload_n 1,1) from by decide +kernel) rfl
theorem m24_18 : M24 18 ls st H Q = M24 20 ls (.int 32::st) H Q:=w_con (show decode kb24 18 = .ok (.bipush 32,2) from by decide +kernel) rfl (by decide)
theorem m24_20 : M24 20 ls (.int y::.int x::st) H Q = M24 21 ls (.int (x * y)::st) H Q:=w_x (show decode kb24 20 = .ok (.imul,1) from by decide +kernel) rfl
theorem m24_21 : M24 21 [l0,l1,.val (.int v),l3] st H Q = M24 22 [l0,l1,.val (.int v),l3] (.int v::st) H Q:=w_x (show decode kb24 21 = .ok (.iload_n 2,1) from by decide +kernel) rfl
theorem m24_22 : M24 22 ls (.int y::.int x::st) H Q = M24 23 ls (.int (x + y)::st) H Q:=w_x (show decode kb24 22 = .ok (.iadd,1) from by decide +kernel) rfl
theorem m24_23  : M24 23 ls (.int j::.ref ((b + 1) + 11)::st) (put (b + 1) pre s A post) Q = (inB j (A 10)∧M24 24 ls (.int (getA (A 10) j)::st) (put (b + 1) pre s A post) Q):=w_ild (show decode kb24 23 = .ok (.iaload,1) from by decide +kernel) rfl put_a10
theorem m24_24 : M24 24 [.val (.ref r),l1,l2,l3] st H Q = M24 25 [.val (.ref r),l1,l2,l3] (.ref r::st) H Q:=w_x (show decode kb24 24 = .ok (.aload_n 0,1) from by decide +kernel) rfl
theorem m24_25 : M24 25 ls (.ref (b + 1)::st) (put (b + 1) pre s A post) Q = M24 28 ls (.ref ((b + 1) + 2)::st) (put (b + 1) pre s A post) Q:=w_get (show decode kb24 25 = .ok (.getfield 13,3) from by decide +kernel) gf_13 put_o rfl
theorem m24_28 : M24 28 [l0,l1,.val (.int v),l3] st H Q = M24 29 [l0,l1,.val (.int v),l3] (.int v::st) H Q:=w_x (show decode kb24 28 = .ok (.iload_n 2,1) from by decide +kernel) rfl
theorem m24_29  : M24 29 ls (.int j::.ref ((b + 1) + 2)::st) (put (b + 1) pre s A post) Q = (inB j (A 1)∧M24 30 ls (.int (getA (A 1) j)::st) (put (b + 1) pre s A post) Q):=w_ild (show decode kb24 29 = .ok (.iaload,1) from by decide +kernel) rfl put_a1
theorem m24_30 : M24 30 ls (.int y::.int x::st) H Q = M24 31 ls (.int (x + y)::st) H Q:=w_x (show decode kb24 30 = .ok (.iadd,1) from by decide +kernel) rfl
theorem m24_31 : M24 31 ls (.int z::st) H Q = Q (some (.int z)) H:=w_iret (show decode kb24 31 = .ok (.ireturn,1) from by decide +kernel) rfl
theorem m25_0 : M25 0 [l0,.val (.int v),l2] st H Q = M25 1 [l0,.val (.int v),l2] (.int v::st) H Q:=w_x (show decode kb25 0 = .ok (.iload_n 1,1) from by decide +kernel) rfl
theorem m25_1 : M25 1 ls (.int x::st) H Q = if x < 0 then M25 27 ls st H Q else M25 4 ls st H Q:=w_if (show decode kb25 1 = .ok (.ifCond .lt 26,3) from by decide +kernel) (z_lt x) rfl
theorem m25_4 : M25 4 [l0,.val (.int v),l2] st H Q = M25 5 [l0,.val (.int v),l2] (.int v::st) H Q:=w_x (show decode kb25 4 = .ok (.iload_n 1,1) from by decide +kernel) rfl
theorem m25_5 : M25 5 ls st H Q = M25 6 ls (.int 1::st) H Q:=w_con (show decode kb25 5 = .ok (.iconst 1,1) from by decide +kernel) rfl (by decide)
theorem m25_6 : M25 6 ls (.int y::.int x::st) H Q = if y < x then M25 27 ls st H Q else M25 9 ls st H Q:=w_icmp (show decode kb25 6 = .ok (.if_icmp .gt 21,3) from by decide +kernel) (i_gt x y) rfl
theorem m25_9 : M25 9 [l0,l1,.val (.int v)] st H Q = M25 10 [l0,l1,.val (.int v)] (.int v::st) H Q:=w_x (show decode kb25 9 = .ok (.iload_n 2,1) from by decide +kernel) rfl
theorem m25_10 : M25 10 ls (.int x::st) H Q = if x < 0 then M25 27 ls st H Q else M25 13 ls st H Q:=w_if (show decode kb25 10 = .ok (.ifCond .lt 17,3) from by decide +kernel) (z_lt x) rfl
theorem m25_13 : M25 13 [l0,l1,.val (.int v)] st H Q = M25 14 [l0,l1,.val (.int v)] (.int v::st) H Q:=w_x (show decode kb25 13 = .ok (.iload_n 2,1) from by decide +kernel) rfl
theorem m25_14 : M25 14 [.val (.ref r),l1,l2] st H Q = M25 15 [.val (.ref r),l1,l2] (.ref r::st) H Q:=w_x (show decode kb25 14 = .ok (.aload_n 0,1) from by decide +kernel) rfl
theorem m25_15 : M25 15 ls (.ref (b + 1)::st) (put (b + 1) pre s A post) Q = M25 18 ls (.int (s 3)::st) (put (b + 1) pre s A post) Q:=w_get (show decode kb25 15 = .ok (.getfield 75,3) from by decide +kernel) gf_75 put_o rfl
theorem m25_18 : M25 18 ls (.int y::.int x::st) H Q = if x < y then M25 21 ls st H Q else M25 27 ls st H Q:=w_icmpN (show decode kb25 18 = .ok (.if_icmp .ge 9,3) from by decide +kernel) (i_ge x y) rfl
theorem m25_21 : M25 21 [l0,l1,.val (.int v)] st H Q = M25 22 [l0,l1,.val (.int v)] (.int v::st) H Q:=w_x (show decode kb25 21 = .ok (.iload_n 2,1) from by decide +kernel) rfl
theorem m25_22 : M25 22 ls st H Q = M25 24 ls (.int 32::st) H Q:=w_con (show decode kb25 22 = .ok (.bipush 32,2) from by decide +kernel) rfl (by decide)
theorem m25_24 : M25 24 ls (.int y::.int x::st) H Q = if x < y then M25 29 ls st H Q else M25 27 ls st H Q:=w_icmp (show decode kb25 24 = .ok (.if_icmp .lt 5,3) from by decide +kernel) (i_lt x y) rfl
theorem m25_27 : M25 27 ls st H Q = M25 28 ls (.int 0::st) H Q:=w_con (show decode kb25 27 = .ok (.iconst 0,1) from by decide +kernel) rfl (by decide)
theorem m25_28 : M25 28 ls (.int z::st) H Q = Q (some (.int z)) H:=w_iret (show decode kb25 28 = .ok (.ireturn,1) from by decide +kernel) rfl
theorem m25_29 : M25 29 [.val (.ref r),l1,l2] st H Q = M25 30 [.val (.ref r),l1,l2] (.ref r::st) H Q:=w_x (show decode kb25 29 = .ok (.aload_n 0,1) from by decide +kernel) rfl
theorem m25_30 : M25 30 ls (.ref (b + 1)::st) (put (b + 1) pre s A post) Q = M25 33 ls (.ref ((b + 1) + 9)::st) (put (b + 1) pre s A post) Q:=w_get (show decode kb25 30 = .ok (.getfield 34,3) from by decide +kernel) gf_34 put_o rfl
theorem m25_33 : M25 33 [l0,.val (.int v),l2] st H Q = M25 34 [l0,.val (.int v),l2] (.int v::st) H Q:=w_x (show decode kb25 33 = .ok (.iload_n 1,1) from by decide +kernel) rfl
theorem m25_34 : M25 34 ls st H Q = M25 36 ls (.int 32::st) H Q:=w_con (show decode kb25 34 = .ok (.bipush 32,2) from by decide +kernel) rfl (by decide)
theorem m25_36 : M25 36 ls (.int y::.int x::st) H Q = M25 37 ls (.int (x * y)::st) H Q:=w_x (show decode kb25 36 = .ok (.imul,1) from by decide +kernel) rfl
theorem m25_37 : M25 37 [l0,l1,.val (.int v)] st H Q = M25 38 [l0,l1,.val (.int v)] (.int v::st) H Q:=w_x (show decode kb25 37 = .ok (.iload_n 2,1) from by decide +kernel) rfl
theorem m25_38 : M25 38 ls (.int y::.int x::st) H Q = M25 39 ls (.int (x + y)::st) H Q:=w_x (show decode kb25 38 = .ok (.iadd,1) from by decide +kernel) rfl
theorem m25_39  : M25 39 ls (.int j::.ref ((b + 1) + 9)::st) (put (b + 1) pre s A post) Q = (inB j (A 8)∧M25 40 ls (.int (getA (A 8) j)::st) (put (b + 1) pre s A post) Q):=w_ild (show decode kb25 39 = .ok (.iaload,1) from by decide +kernel) rfl put_a8
theorem m25_40 : M25 40 ls (.int z::st) H Q = Q (some (.int z)) H:=w_iret (show decode kb25 40 = .ok (.ireturn,1) from by decide +kernel) rfl
theorem m26_0 : M26 0 [.val (.ref r),l1] st H Q = M26 1 [.val (.ref r),l1] (.ref r::st) H Q:=w_x (show decode kb26 0 = .ok (.aload_n 0,1) from by decide +kernel) rfl
theorem m26_1 : M26 1 ls (.ref (b + 1)::st) (put (b + 1) pre s A post) Q = M26 4 ls (.int (s 4)::st) (put (b + 1) pre s A post) Q:=w_get (show decode kb26 1 = .ok (.getfield 78,3) from by decide +kernel) gf_78 put_o rfl
theorem m26_4 : M26 4 ls (.int x::st) H Q = if x = 0 then M26 7 ls st H Q else M26 10 ls st H Q:=w_ifN (show decode kb26 4 = .ok (.ifCond .ne 6,3) from by decide +kernel) (z_ne x) rfl
theorem m26_7 : M26 7 ls st H Q = M26 9 ls (.int (-6)::st) H Q:=w_con (show decode kb26 7 = .ok (.bipush (-6),2) from by decide +kernel) rfl (by decide)
theorem m26_9 : M26 9 ls (.int z::st) H Q = Q (some (.int z)) H:=w_iret (show decode kb26 9 = .ok (.ireturn,1) from by decide +kernel) rfl
theorem m26_10 : M26 10 [.val (.ref r),l1] st H Q = M26 11 [.val (.ref r),l1] (.ref r::st) H Q:=w_x (show decode kb26 10 = .ok (.aload_n 0,1) from by decide +kernel) rfl
theorem m26_11 : M26 11 ls (.ref (b + 1)::st) (put (b + 1) pre s A post) Q = M26 14 ls (.int (s 2)::st) (put (b + 1) pre s A post) Q:=w_get (show decode kb26 11 = .ok (.getfield 72,3) from by decide +kernel) gf_72 put_o rfl
theorem m26_14u : M26 14 [l0,.unset] ((.int v)::st) H Q = M26 15 [l0,.val (.int v)] st H Q:=w_st (i:=1) (p:=isI) (show decode kb26 14 = .ok (.istore_n 1,1) from by decide +kernel) rfl rfl rfl rfl rfl rfl
theorem m26_15 : M26 15 [.val (.ref r),l1] st H Q = M26 16 [.val (.ref r),l1] (.ref r::st) H Q:=w_x (show decode kb26 15 = .ok (.aload_n 0,1) from by decide +kernel) rfl
theorem m26_16 : M26 16 ls st H Q = M26 17 ls (.int 0::st) H Q:=w_con (show decode kb26 16 = .ok (.iconst 0,1) from by decide +kernel) rfl (by decide)
theorem m26_17 : M26 17 [l0,.val (.int v)] st H Q = M26 18 [l0,.val (.int v)] (.int v::st) H Q:=w_x (show decode kb26 17 = .ok (.iload_n 1,1) from by decide +kernel) rfl
theorem cr26_117 : vR tables_1 dn y26 117 = some (true,y28,prog_1_method_29_code,6,none,2,0):=pR_of (cR_of (by decide +kernel) rc_28 dn_28 dn_26 (sig:=⟨[.int,.int],none⟩) (by decide +kernel) (by decide +kernel) rfl rfl) (by decide +kernel) (by decide +kernel)
theorem m26_18 (a0 : Int32) (a1 : Int32) : M26 18 ls [.int a1,.int a0,.ref (b + 1)] (put (b + 1) pre s A post) Q = M28 0 [.val (.ref (b + 1)),.val (.int a0),.val (.int a1),.unset,.unset,.unset] [] (put (b + 1) pre s A post) (fun v H1 => M26 21 ls (v.toList ++ []) H1 Q):=w_virt (as:=[.int a1,.int a0]) (rest:=[]) (a:=(b + 1)) (show decode kb26 18 = .ok (.invokevirtual 117,3) from by decide +kernel) cr26_117 put_o rfl rfl (Nat.le_of_ble_eq_true rfl) (by show 3≤6; omega) rfl
theorem m26_21 : M26 21 [.val (.ref r),l1] st H Q = M26 22 [.val (.ref r),l1] (.ref r::st) H Q:=w_x (show decode kb26 21 = .ok (.aload_n 0,1) from by decide +kernel) rfl
theorem m26_22 : M26 22 ls st H Q = M26 23 ls (.int 1::st) H Q:=w_con (show decode kb26 22 = .ok (.iconst 1,1) from by decide +kernel) rfl (by decide)
theorem m26_23 : M26 23 [l0,.val (.int v)] st H Q = M26 24 [l0,.val (.int v)] (.int v::st) H Q:=w_x (show decode kb26 23 = .ok (.iload_n 1,1) from by decide +kernel) rfl
theorem m26_24 (a0 : Int32) (a1 : Int32) : M26 24 ls [.int a1,.int a0,.ref (b + 1)] (put (b + 1) pre s A post) Q = M28 0 [.val (.ref (b + 1)),.val (.int a0),.val (.int a1),.unset,.unset,.unset] [] (put (b + 1) pre s A post) (fun v H1 => M26 27 ls (v.toList ++ []) H1 Q):=w_virt (as:=[.int a1,.int a0]) (rest:=[]) (a:=(b + 1)) (show decode kb26 24 = .ok (.invokevirtual 117,3) from by decide +kernel) cr26_117 put_o rfl rfl (Nat.le_of_ble_eq_true rfl) (by show 3≤6; omega) rfl
theorem m26_27 : M26 27 [.val (.ref r),l1] st H Q = M26 28 [.val (.ref r),l1] (.ref r::st) H Q:=w_x (show decode kb26 27 = .ok (.aload_n 0,1) from by decide +kernel) rfl
theorem m26_28 : M26 28 [l0,.val (.int v)] st H Q = M26 29 [l0,.val (.int v)] (.int v::st) H Q:=w_x (show decode kb26 28 = .ok (.iload_n 1,1) from by decide +kernel) rfl
theorem pf26_75 : pfR tables_1 y26.cls y26.name 75 = some ("RetimingEngine", 21,.int):=by decide +kernel
theorem m26_29 : M26 29 ls (.int v::.ref (b + 1)::st) (put (b + 1) pre s A post) Q = M26 32 ls st (put (b + 1) pre (ou s 3 v) A post) Q:=w_put (show decode kb26 29 = .ok (.putfield 75,3) from by decide +kernel) pf26_75 put_o (Nat.succ_le_succ (Nat.zero_le _)) (by show 21 < 26; omega) rfl put_s3
theorem m26_32 : M26 32 [l0,.val (.int v)] st H Q = M26 33 [l0,.val (.int v)] (.int v::st) H Q:=w_x (show decode kb26 32 = .ok (.iload_n 1,1) from by decide +kernel) rfl
theorem m26_33 : M26 33 ls (.int z::st) H Q = Q (some (.int z)) H:=w_iret (show decode kb26 33 = .ok (.ireturn,1) from by decide +kernel) rfl
theorem m27_0 : M27 0 [.val (.ref r)] st H Q = M27 1 [.val (.ref r)] (.ref r::st) H Q:=w_x (show decode kb27 0 = .ok (.aload_n 0,1) from by decide +kernel) rfl
theorem m27_1 : M27 1 ls st H Q = M27 2 ls (.int 0::st) H Q:=w_con (show decode kb27 1 = .ok (.iconst 0,1) from by decide +kernel) rfl (by decide)
theorem pf27_72 : pfR tables_1 y27.cls y27.name 72 = some ("RetimingEngine", 20,.int):=by decide +kernel
theorem m27_2 : M27 2 ls (.int v::.ref (b + 1)::st) (put (b + 1) pre s A post) Q = M27 5 ls st (put (b + 1) pre (ou s 2 v) A post) Q:=w_put (show decode kb27 2 = .ok (.putfield 72,3) from by decide +kernel) pf27_72 put_o (Nat.succ_le_succ (Nat.zero_le _)) (by show 20 < 26; omega) rfl put_s2
theorem m27_5 : M27 5 ls [] H Q = Q none H:=w_vret (show decode kb27 5 = .ok (.return_,1) from by decide +kernel) rfl
theorem m28_0 : M28 0 [.val (.ref r),l1,l2,l3,l4,l5] st H Q = M28 1 [.val (.ref r),l1,l2,l3,l4,l5] (.ref r::st) H Q:=w_x (show decode kb28 0 = .ok (.aload_n 0,1) from by decide +kernel) rfl
theorem m28_1 : M28 1 [l0,.val (.int v),l2,l3,l4,l5] st H Q = M28 2 [l0,.val (.int v),l2,l3,l4,l5] (.int v::st) H Q:=w_x (show decode kb28 1 = .ok (.iload_n 1,1) from by decide +kernel) rfl
theorem cr28_85 : vR tables_1 dn y28 85 = some (true,y5,prog_1_method_20_code,7,(some .boolean),1,5):=pR_of (cR_of (by decide +kernel) rc_5 dn_5 dn_28 (sig:=⟨[.int],some .boolean⟩) (by decide +kernel) (by decide +kernel) rfl rfl) (by decide +kernel) (by decide +kernel)
theorem m28_2 (a0 : Int32) : M28 2 ls [.int a0,.ref (b + 1)] (put (b + 1) pre s A post) Q = M5 0 [.val (.ref (b + 1)),.val (.int a0),.unset,.unset,.unset,.unset,.unset] [] (put (b + 1) pre s A post) (fun v H1 => M28 5 ls (v.toList ++ []) H1 Q):=w_virt (as:=[.int a0]) (rest:=[]) (a:=(b + 1)) (show decode kb28 2 = .ok (.invokevirtual 85,3) from by decide +kernel) cr28_85 put_o rfl rfl (Nat.le_of_ble_eq_true rfl) (by show 2≤7; omega) rfl
theorem m28_5 : M28 5 ls ((.int v)::st) H Q = M28 6 ls st H Q:=w_x (show decode kb28 5 = .ok (.pop,1) from by decide +kernel) rfl
theorem m28_6 : M28 6 ls st H Q = M28 7 ls (.int 0::st) H Q:=w_con (show decode kb28 6 = .ok (.iconst 0,1) from by decide +kernel) rfl (by decide)
theorem m28_7u : M28 7 [l0,l1,l2,.unset,l4,l5] ((.int v)::st) H Q = M28 8 [l0,l1,l2,.val (.int v),l4,l5] st H Q:=w_st (i:=3) (p:=isI) (show decode kb28 7 = .ok (.istore_n 3,1) from by decide +kernel) rfl rfl rfl rfl rfl rfl
theorem m28_8 : M28 8 [l0,l1,l2,.val (.int v),l4,l5] st H Q = M28 9 [l0,l1,l2,.val (.int v),l4,l5] (.int v::st) H Q:=w_x (show decode kb28 8 = .ok (.iload_n 3,1) from by decide +kernel) rfl
theorem m28_9 : M28 9 [l0,l1,.val (.int v),l3,l4,l5] st H Q = M28 10 [l0,l1,.val (.int v),l3,l4,l5] (.int v::st) H Q:=w_x (show decode kb28 9 = .ok (.iload_n 2,1) from by decide +kernel) rfl
theorem m28_10 : M28 10 ls (.int y::.int x::st) H Q = if x < y then M28 13 ls st H Q else M28 99 ls st H Q:=w_icmpN (show decode kb28 10 = .ok (.if_icmp .ge 89,3) from by decide +kernel) (i_ge x y) rfl
theorem m28_13 : M28 13 [l0,l1,l2,.val (.int v),l4,l5] st H Q = M28 14 [l0,l1,l2,.val (.int v),l4,l5] (.int v::st) H Q:=w_x (show decode kb28 13 = .ok (.iload_n 3,1) from by decide +kernel) rfl
theorem m28_14 : M28 14 ls st H Q = M28 16 ls (.int 32::st) H Q:=w_con (show decode kb28 14 = .ok (.bipush 32,2) from by decide +kernel) rfl (by decide)
theorem m28_16 : M28 16 ls (.int y::.int x::st) H Q = if x < y then M28 19 ls st H Q else M28 99 ls st H Q:=w_icmpN (show decode kb28 16 = .ok (.if_icmp .ge 83,3) from by decide +kernel) (i_ge x y) rfl
theorem m28_19 : M28 19 ls st H Q = M28 20 ls (.int 0::st) H Q:=w_con (show decode kb28 19 = .ok (.iconst 0,1) from by decide +kernel) rfl (by decide)
theorem m28_20u : M28 20 [l0,l1,l2,l3,.unset,l5] ((.int v)::st) H Q = M28 22 [l0,l1,l2,l3,.val (.int v),l5] st H Q:=w_st (i:=4) (p:=isI) (show decode kb28 20 = .ok (.istore 4,2) from by decide +kernel) rfl rfl rfl rfl rfl rfl
theorem m28_20i : M28 20 [l0,l1,l2,l3,.val (.int z),l5] ((.int v)::st) H Q = M28 22 [l0,l1,l2,l3,.val (.int v),l5] st H Q:=w_st (i:=4) (p:=isI) (show decode kb28 20 = .ok (.istore 4,2) from by decide +kernel) rfl rfl rfl rfl rfl rfl
theorem m28_20r : M28 20 [l0,l1,l2,l3,.val (.ref q),l5] ((.int v)::st) H Q = M28 22 [l0,l1,l2,l3,.val (.int v),l5] st H Q:=w_st (i:=4) (p:=isI) (show decode kb28 20 = .ok (.istore 4,2) from by decide +kernel) rfl rfl rfl rfl rfl rfl
theorem m28_20g (h : okS l4) : M28 20 [l0,l1,l2,l3,l4,l5] ((.int v)::st) H Q = M28 22 [l0,l1,l2,l3,.val (.int v),l5] st H Q:=by rcases h with rfl | ⟨z,rfl⟩ <;> first | exact m28_20u | exact m28_20i
theorem m28_22 : M28 22 [l0,l1,l2,l3,.val (.int v),l5] st H Q = M28 24 [l0,l1,l2,l3,.val (.int v),l5] (.int v::st) H Q:=w_x (show decode kb28 22 = .ok (.iload 4,2) from by decide +kernel) rfl
theorem m28_24 : M28 24 [.val (.ref r),l1,l2,l3,l4,l5] st H Q = M28 25 [.val (.ref r),l1,l2,l3,l4,l5] (.ref r::st) H Q:=w_x (show decode kb28 24 = .ok (.aload_n 0,1) from by decide +kernel) rfl
theorem m28_25 : M28 25 ls (.ref (b + 1)::st) (put (b + 1) pre s A post) Q = M28 28 ls (.int (s 0)::st) (put (b + 1) pre s A post) Q:=w_get (show decode kb28 25 = .ok (.getfield 65,3) from by decide +kernel) gf_65 put_o rfl
theorem m28_28 : M28 28 ls (.int y::.int x::st) H Q = if x < y then M28 31 ls st H Q else M28 66 ls st H Q:=w_icmpN (show decode kb28 28 = .ok (.if_icmp .ge 38,3) from by decide +kernel) (i_ge x y) rfl
theorem m28_31 : M28 31 [.val (.ref r),l1,l2,l3,l4,l5] st H Q = M28 32 [.val (.ref r),l1,l2,l3,l4,l5] (.ref r::st) H Q:=w_x (show decode kb28 31 = .ok (.aload_n 0,1) from by decide +kernel) rfl
theorem m28_32 : M28 32 ls (.ref (b + 1)::st) (put (b + 1) pre s A post) Q = M28 35 ls (.ref ((b + 1) + 15)::st) (put (b + 1) pre s A post) Q:=w_get (show decode kb28 32 = .ok (.getfield 53,3) from by decide +kernel) gf_53 put_o rfl
theorem m28_35 : M28 35 [l0,l1,l2,l3,.val (.int v),l5] st H Q = M28 37 [l0,l1,l2,l3,.val (.int v),l5] (.int v::st) H Q:=w_x (show decode kb28 35 = .ok (.iload 4,2) from by decide +kernel) rfl
theorem m28_37  : M28 37 ls (.int j::.ref ((b + 1) + 15)::st) (put (b + 1) pre s A post) Q = (inB j (A 14)∧M28 38 ls (.int (getA (A 14) j)::st) (put (b + 1) pre s A post) Q):=w_ild (show decode kb28 37 = .ok (.iaload,1) from by decide +kernel) rfl put_a14
theorem m28_38u : M28 38 [l0,l1,l2,l3,l4,.unset] ((.int v)::st) H Q = M28 40 [l0,l1,l2,l3,l4,.val (.int v)] st H Q:=w_st (i:=5) (p:=isI) (show decode kb28 38 = .ok (.istore 5,2) from by decide +kernel) rfl rfl rfl rfl rfl rfl
theorem m28_38i : M28 38 [l0,l1,l2,l3,l4,.val (.int z)] ((.int v)::st) H Q = M28 40 [l0,l1,l2,l3,l4,.val (.int v)] st H Q:=w_st (i:=5) (p:=isI) (show decode kb28 38 = .ok (.istore 5,2) from by decide +kernel) rfl rfl rfl rfl rfl rfl
theorem m28_38r : M28 38 [l0,l1,l2,l3,l4,.val (.ref q)] ((.int v)::st) H Q = M28 40 [l0,l1,l2,l3,l4,.val (.int v)] st H Q:=w_st (i:=5) (p:=isI) (show decode kb28 38 = .ok (.istore 5,2) from by decide +kernel) rfl rfl rfl rfl rfl rfl
theorem m28_38g (h : okS l5) : M28 38 [l0,l1,l2,l3,l4,l5] ((.int v)::st) H Q = M28 40 [l0,l1,l2,l3,l4,.val (.int v)] st H Q:=by rcases h with rfl | ⟨z,rfl⟩ <;> first | exact m28_38u | exact m28_38i
theorem m28_40 : M28 40 [.val (.ref r),l1,l2,l3,l4,l5] st H Q = M28 41 [.val (.ref r),l1,l2,l3,l4,l5] (.ref r::st) H Q:=w_x (show decode kb28 40 = .ok (.aload_n 0,1) from by decide +kernel) rfl
theorem m28_41 : M28 41 ls (.ref (b + 1)::st) (put (b + 1) pre s A post) Q = M28 44 ls (.ref ((b + 1) + 18)::st) (put (b + 1) pre s A post) Q:=w_get (show decode kb28 41 = .ok (.getfield 62,3) from by decide +kernel) gf_62 put_o rfl
theorem m28_44 : M28 44 [l0,l1,l2,l3,l4,.val (.int v)] st H Q = M28 46 [l0,l1,l2,l3,l4,.val (.int v)] (.int v::st) H Q:=w_x (show decode kb28 44 = .ok (.iload 5,2) from by decide +kernel) rfl
theorem m28_46 : M28 46 ls st H Q = M28 48 ls (.int 32::st) H Q:=w_con (show decode kb28 46 = .ok (.bipush 32,2) from by decide +kernel) rfl (by decide)
theorem m28_48 : M28 48 ls (.int y::.int x::st) H Q = M28 49 ls (.int (x * y)::st) H Q:=w_x (show decode kb28 48 = .ok (.imul,1) from by decide +kernel) rfl
theorem m28_49 : M28 49 [l0,l1,l2,.val (.int v),l4,l5] st H Q = M28 50 [l0,l1,l2,.val (.int v),l4,l5] (.int v::st) H Q:=w_x (show decode kb28 49 = .ok (.iload_n 3,1) from by decide +kernel) rfl
theorem m28_50 : M28 50 ls (.int y::.int x::st) H Q = M28 51 ls (.int (x + y)::st) H Q:=w_x (show decode kb28 50 = .ok (.iadd,1) from by decide +kernel) rfl
theorem m28_51 : M28 51 [.val (.ref r),l1,l2,l3,l4,l5] st H Q = M28 52 [.val (.ref r),l1,l2,l3,l4,l5] (.ref r::st) H Q:=w_x (show decode kb28 51 = .ok (.aload_n 0,1) from by decide +kernel) rfl
theorem m28_52 : M28 52 [l0,l1,l2,l3,l4,.val (.int v)] st H Q = M28 54 [l0,l1,l2,l3,l4,.val (.int v)] (.int v::st) H Q:=w_x (show decode kb28 52 = .ok (.iload 5,2) from by decide +kernel) rfl
theorem m28_54 : M28 54 [l0,l1,l2,.val (.int v),l4,l5] st H Q = M28 55 [l0,l1,l2,.val (.int v),l4,l5] (.int v::st) H Q:=w_x (show decode kb28 54 = .ok (.iload_n 3,1) from by decide +kernel) rfl
theorem m28_55 : M28 55 [l0,.val (.int v),l2,l3,l4,l5] st H Q = M28 56 [l0,.val (.int v),l2,l3,l4,l5] (.int v::st) H Q:=w_x (show decode kb28 55 = .ok (.iload_n 1,1) from by decide +kernel) rfl
theorem cr28_135 : vR tables_1 dn y28 135 = some (true,y29,prog_1_method_30_code,9,(some .int),3,2):=pR_of (cR_of (by decide +kernel) rc_29 dn_29 dn_28 (sig:=⟨[.int,.int,.int],some .int⟩) (by decide +kernel) (by decide +kernel) rfl rfl) (by decide +kernel) (by decide +kernel)
theorem m28_56 (a0 : Int32) (a1 : Int32) (a2 : Int32) (u0 : Int32) (u1 : Nat) : M28 56 ls [.int a2,.int a1,.int a0,.ref (b + 1),.int u0,.ref u1] (put (b + 1) pre s A post) Q = M29 0 [.val (.ref (b + 1)),.val (.int a0),.val (.int a1),.val (.int a2),.unset,.unset,.unset,.unset,.unset] [] (put (b + 1) pre s A post) (fun v H1 => M28 59 ls (v.toList ++ [.int u0,.ref u1]) H1 Q):=w_virt (as:=[.int a2,.int a1,.int a0]) (rest:=[.int u0,.ref u1]) (a:=(b + 1)) (show decode kb28 56 = .ok (.invokevirtual 135,3) from by decide +kernel) cr28_135 put_o rfl rfl (Nat.le_of_ble_eq_true rfl) (by show 4≤9; omega) rfl
theorem m28_59  : M28 59 ls (.int v::.int j::.ref ((b + 1) + 18)::st) (put (b + 1) pre s A post) Q = (inB j (A 17)∧M28 60 ls st (put (b + 1) pre s (ou A 17 (setA (A 17) j v)) post) Q):=w_ist (show decode kb28 59 = .ok (.iastore,1) from by decide +kernel) rfl put_a17 (by omega) rfl put_w17
theorem m28_60 : M28 60 [l0,l1,l2,l3,.val (.int v),l5] st H Q = M28 63 [l0,l1,l2,l3,.val (.int (v + 1)),l5] st H Q:=w_iinc (show decode kb28 60 = .ok (.iinc 4 1,3) from by decide +kernel) rfl (by decide) rfl
theorem m28_63 : M28 63 ls st H Q = M28 22 ls st H Q:=w_x (show decode kb28 63 = .ok (.goto (-41),3) from by decide +kernel) rfl
theorem m28_66 : M28 66 [.val (.ref r),l1,l2,l3,l4,l5] st H Q = M28 67 [.val (.ref r),l1,l2,l3,l4,l5] (.ref r::st) H Q:=w_x (show decode kb28 66 = .ok (.aload_n 0,1) from by decide +kernel) rfl
theorem m28_67 : M28 67 ls (.ref (b + 1)::st) (put (b + 1) pre s A post) Q = M28 70 ls (.ref ((b + 1) + 9)::st) (put (b + 1) pre s A post) Q:=w_get (show decode kb28 67 = .ok (.getfield 34,3) from by decide +kernel) gf_34 put_o rfl
theorem m28_70 : M28 70 [l0,.val (.int v),l2,l3,l4,l5] st H Q = M28 71 [l0,.val (.int v),l2,l3,l4,l5] (.int v::st) H Q:=w_x (show decode kb28 70 = .ok (.iload_n 1,1) from by decide +kernel) rfl
theorem m28_71 : M28 71 ls st H Q = M28 73 ls (.int 32::st) H Q:=w_con (show decode kb28 71 = .ok (.bipush 32,2) from by decide +kernel) rfl (by decide)
theorem m28_73 : M28 73 ls (.int y::.int x::st) H Q = M28 74 ls (.int (x * y)::st) H Q:=w_x (show decode kb28 73 = .ok (.imul,1) from by decide +kernel) rfl
theorem m28_74 : M28 74 [l0,l1,l2,.val (.int v),l4,l5] st H Q = M28 75 [l0,l1,l2,.val (.int v),l4,l5] (.int v::st) H Q:=w_x (show decode kb28 74 = .ok (.iload_n 3,1) from by decide +kernel) rfl
theorem m28_75 : M28 75 ls (.int y::.int x::st) H Q = M28 76 ls (.int (x + y)::st) H Q:=w_x (show decode kb28 75 = .ok (.iadd,1) from by decide +kernel) rfl
theorem m28_76 : M28 76 [.val (.ref r),l1,l2,l3,l4,l5] st H Q = M28 77 [.val (.ref r),l1,l2,l3,l4,l5] (.ref r::st) H Q:=w_x (show decode kb28 76 = .ok (.aload_n 0,1) from by decide +kernel) rfl
theorem m28_77 : M28 77 ls (.ref (b + 1)::st) (put (b + 1) pre s A post) Q = M28 80 ls (.ref ((b + 1) + 18)::st) (put (b + 1) pre s A post) Q:=w_get (show decode kb28 77 = .ok (.getfield 62,3) from by decide +kernel) gf_62 put_o rfl
theorem m28_80 : M28 80 [.val (.ref r),l1,l2,l3,l4,l5] st H Q = M28 81 [.val (.ref r),l1,l2,l3,l4,l5] (.ref r::st) H Q:=w_x (show decode kb28 80 = .ok (.aload_n 0,1) from by decide +kernel) rfl
theorem m28_81 : M28 81 ls (.ref (b + 1)::st) (put (b + 1) pre s A post) Q = M28 84 ls (.int (s 0)::st) (put (b + 1) pre s A post) Q:=w_get (show decode kb28 81 = .ok (.getfield 65,3) from by decide +kernel) gf_65 put_o rfl
theorem m28_84 : M28 84 ls st H Q = M28 85 ls (.int 1::st) H Q:=w_con (show decode kb28 84 = .ok (.iconst 1,1) from by decide +kernel) rfl (by decide)
theorem m28_85 : M28 85 ls (.int y::.int x::st) H Q = M28 86 ls (.int (x - y)::st) H Q:=w_x (show decode kb28 85 = .ok (.isub,1) from by decide +kernel) rfl
theorem m28_86 : M28 86 ls st H Q = M28 88 ls (.int 32::st) H Q:=w_con (show decode kb28 86 = .ok (.bipush 32,2) from by decide +kernel) rfl (by decide)
theorem m28_88 : M28 88 ls (.int y::.int x::st) H Q = M28 89 ls (.int (x * y)::st) H Q:=w_x (show decode kb28 88 = .ok (.imul,1) from by decide +kernel) rfl
theorem m28_89 : M28 89 [l0,l1,l2,.val (.int v),l4,l5] st H Q = M28 90 [l0,l1,l2,.val (.int v),l4,l5] (.int v::st) H Q:=w_x (show decode kb28 89 = .ok (.iload_n 3,1) from by decide +kernel) rfl
theorem m28_90 : M28 90 ls (.int y::.int x::st) H Q = M28 91 ls (.int (x + y)::st) H Q:=w_x (show decode kb28 90 = .ok (.iadd,1) from by decide +kernel) rfl
theorem m28_91  : M28 91 ls (.int j::.ref ((b + 1) + 18)::st) (put (b + 1) pre s A post) Q = (inB j (A 17)∧M28 92 ls (.int (getA (A 17) j)::st) (put (b + 1) pre s A post) Q):=w_ild (show decode kb28 91 = .ok (.iaload,1) from by decide +kernel) rfl put_a17
theorem m28_92  : M28 92 ls (.int v::.int j::.ref ((b + 1) + 9)::st) (put (b + 1) pre s A post) Q = (inB j (A 8)∧M28 93 ls st (put (b + 1) pre s (ou A 8 (setA (A 8) j v)) post) Q):=w_ist (show decode kb28 92 = .ok (.iastore,1) from by decide +kernel) rfl put_a8 (by omega) rfl put_w8
theorem m28_93 : M28 93 [l0,l1,l2,.val (.int v),l4,l5] st H Q = M28 96 [l0,l1,l2,.val (.int (v + 1)),l4,l5] st H Q:=w_iinc (show decode kb28 93 = .ok (.iinc 3 1,3) from by decide +kernel) rfl (by decide) rfl
theorem m28_96 : M28 96 ls st H Q = M28 8 ls st H Q:=w_x (show decode kb28 96 = .ok (.goto (-88),3) from by decide +kernel) rfl
theorem m28_99 : M28 99 ls [] H Q = Q none H:=w_vret (show decode kb28 99 = .ok (.return_,1) from by decide +kernel) rfl
theorem m29_0 : M29 0 [.val (.ref r),l1,l2,l3,l4,l5,l6,l7,l8] st H Q = M29 1 [.val (.ref r),l1,l2,l3,l4,l5,l6,l7,l8] (.ref r::st) H Q:=w_x (show decode kb29 0 = .ok (.aload_n 0,1) from by decide +kernel) rfl
theorem m29_1 : M29 1 ls (.ref (b + 1)::st) (put (b + 1) pre s A post) Q = M29 4 ls (.ref ((b + 1) + 1)::st) (put (b + 1) pre s A post) Q:=w_get (show decode kb29 1 = .ok (.getfield 7,3) from by decide +kernel) gf_7 put_o rfl
theorem m29_4 : M29 4 [l0,.val (.int v),l2,l3,l4,l5,l6,l7,l8] st H Q = M29 5 [l0,.val (.int v),l2,l3,l4,l5,l6,l7,l8] (.int v::st) H Q:=w_x (show decode kb29 4 = .ok (.iload_n 1,1) from by decide +kernel) rfl
theorem m29_5  : M29 5 ls (.int j::.ref ((b + 1) + 1)::st) (put (b + 1) pre s A post) Q = (inB j (A 0)∧M29 6 ls (.int (getA (A 0) j)::st) (put (b + 1) pre s A post) Q):=w_ild (show decode kb29 5 = .ok (.iaload,1) from by decide +kernel) rfl put_a0
theorem m29_6u : M29 6 [l0,l1,l2,l3,.unset,l5,l6,l7,l8] ((.int v)::st) H Q = M29 8 [l0,l1,l2,l3,.val (.int v),l5,l6,l7,l8] st H Q:=w_st (i:=4) (p:=isI) (show decode kb29 6 = .ok (.istore 4,2) from by decide +kernel) rfl rfl rfl rfl rfl rfl
theorem m29_8 : M29 8 [l0,l1,l2,l3,.val (.int v),l5,l6,l7,l8] st H Q = M29 10 [l0,l1,l2,l3,.val (.int v),l5,l6,l7,l8] (.int v::st) H Q:=w_x (show decode kb29 8 = .ok (.iload 4,2) from by decide +kernel) rfl
theorem m29_10 : M29 10 ls (.int x::st) H Q = if x = 0 then M29 13 ls st H Q else M29 20 ls st H Q:=w_ifN (show decode kb29 10 = .ok (.ifCond .ne 10,3) from by decide +kernel) (z_ne x) rfl
theorem m29_13 : M29 13 [.val (.ref r),l1,l2,l3,l4,l5,l6,l7,l8] st H Q = M29 14 [.val (.ref r),l1,l2,l3,l4,l5,l6,l7,l8] (.ref r::st) H Q:=w_x (show decode kb29 13 = .ok (.aload_n 0,1) from by decide +kernel) rfl
theorem m29_14 : M29 14 ls (.ref (b + 1)::st) (put (b + 1) pre s A post) Q = M29 17 ls (.ref ((b + 1) + 8)::st) (put (b + 1) pre s A post) Q:=w_get (show decode kb29 14 = .ok (.getfield 31,3) from by decide +kernel) gf_31 put_o rfl
theorem m29_17 : M29 17 [l0,l1,.val (.int v),l3,l4,l5,l6,l7,l8] st H Q = M29 18 [l0,l1,.val (.int v),l3,l4,l5,l6,l7,l8] (.int v::st) H Q:=w_x (show decode kb29 17 = .ok (.iload_n 2,1) from by decide +kernel) rfl
theorem m29_18  : M29 18 ls (.int j::.ref ((b + 1) + 8)::st) (put (b + 1) pre s A post) Q = (inB j (A 7)∧M29 19 ls (.int (getA (A 7) j)::st) (put (b + 1) pre s A post) Q):=w_ild (show decode kb29 18 = .ok (.iaload,1) from by decide +kernel) rfl put_a7
theorem m29_19 : M29 19 ls (.int z::st) H Q = Q (some (.int z)) H:=w_iret (show decode kb29 19 = .ok (.ireturn,1) from by decide +kernel) rfl
theorem m29_20 : M29 20 [.val (.ref r),l1,l2,l3,l4,l5,l6,l7,l8] st H Q = M29 21 [.val (.ref r),l1,l2,l3,l4,l5,l6,l7,l8] (.ref r::st) H Q:=w_x (show decode kb29 20 = .ok (.aload_n 0,1) from by decide +kernel) rfl
theorem m29_21 : M29 21 ls (.ref (b + 1)::st) (put (b + 1) pre s A post) Q = M29 24 ls (.ref ((b + 1) + 3)::st) (put (b + 1) pre s A post) Q:=w_get (show decode kb29 21 = .ok (.getfield 16,3) from by decide +kernel) gf_16 put_o rfl
theorem m29_24 : M29 24 [l0,.val (.int v),l2,l3,l4,l5,l6,l7,l8] st H Q = M29 25 [l0,.val (.int v),l2,l3,l4,l5,l6,l7,l8] (.int v::st) H Q:=w_x (show decode kb29 24 = .ok (.iload_n 1,1) from by decide +kernel) rfl
theorem m29_25  : M29 25 ls (.int j::.ref ((b + 1) + 3)::st) (put (b + 1) pre s A post) Q = (inB j (A 2)∧M29 26 ls (.int (getA (A 2) j)::st) (put (b + 1) pre s A post) Q):=w_ild (show decode kb29 25 = .ok (.iaload,1) from by decide +kernel) rfl put_a2
theorem m29_26u : M29 26 [l0,l1,l2,l3,l4,.unset,l6,l7,l8] ((.int v)::st) H Q = M29 28 [l0,l1,l2,l3,l4,.val (.int v),l6,l7,l8] st H Q:=w_st (i:=5) (p:=isI) (show decode kb29 26 = .ok (.istore 5,2) from by decide +kernel) rfl rfl rfl rfl rfl rfl
theorem m29_28 : M29 28 ls st H Q = M29 29 ls (.int 0::st) H Q:=w_con (show decode kb29 28 = .ok (.iconst 0,1) from by decide +kernel) rfl (by decide)
theorem m29_29u : M29 29 [l0,l1,l2,l3,l4,l5,.unset,l7,l8] ((.int v)::st) H Q = M29 31 [l0,l1,l2,l3,l4,l5,.val (.int v),l7,l8] st H Q:=w_st (i:=6) (p:=isI) (show decode kb29 29 = .ok (.istore 6,2) from by decide +kernel) rfl rfl rfl rfl rfl rfl
theorem m29_31 : M29 31 [l0,l1,l2,l3,l4,l5,.val (.int v),l7,l8] st H Q = M29 33 [l0,l1,l2,l3,l4,l5,.val (.int v),l7,l8] (.int v::st) H Q:=w_x (show decode kb29 31 = .ok (.iload 6,2) from by decide +kernel) rfl
theorem m29_33 : M29 33 [.val (.ref r),l1,l2,l3,l4,l5,l6,l7,l8] st H Q = M29 34 [.val (.ref r),l1,l2,l3,l4,l5,l6,l7,l8] (.ref r::st) H Q:=w_x (show decode kb29 33 = .ok (.aload_n 0,1) from by decide +kernel) rfl
theorem m29_34 : M29 34 ls (.ref (b + 1)::st) (put (b + 1) pre s A post) Q = M29 37 ls (.int (s 1)::st) (put (b + 1) pre s A post) Q:=w_get (show decode kb29 34 = .ok (.getfield 69,3) from by decide +kernel) gf_69 put_o rfl
theorem m29_37 : M29 37 ls (.int y::.int x::st) H Q = if x < y then M29 40 ls st H Q else M29 138 ls st H Q:=w_icmpN (show decode kb29 37 = .ok (.if_icmp .ge 101,3) from by decide +kernel) (i_ge x y) rfl
theorem m29_40 : M29 40 [.val (.ref r),l1,l2,l3,l4,l5,l6,l7,l8] st H Q = M29 41 [.val (.ref r),l1,l2,l3,l4,l5,l6,l7,l8] (.ref r::st) H Q:=w_x (show decode kb29 40 = .ok (.aload_n 0,1) from by decide +kernel) rfl
theorem m29_41 : M29 41 ls (.ref (b + 1)::st) (put (b + 1) pre s A post) Q = M29 44 ls (.ref ((b + 1) + 5)::st) (put (b + 1) pre s A post) Q:=w_get (show decode kb29 41 = .ok (.getfield 22,3) from by decide +kernel) gf_22 put_o rfl
theorem m29_44 : M29 44 [l0,l1,l2,l3,l4,l5,.val (.int v),l7,l8] st H Q = M29 46 [l0,l1,l2,l3,l4,l5,.val (.int v),l7,l8] (.int v::st) H Q:=w_x (show decode kb29 44 = .ok (.iload 6,2) from by decide +kernel) rfl
theorem m29_46  : M29 46 ls (.int j::.ref ((b + 1) + 5)::st) (put (b + 1) pre s A post) Q = (inB j (A 4)∧M29 47 ls (.int (getA (A 4) j)::st) (put (b + 1) pre s A post) Q):=w_ild (show decode kb29 46 = .ok (.iaload,1) from by decide +kernel) rfl put_a4
theorem m29_47 : M29 47 [l0,.val (.int v),l2,l3,l4,l5,l6,l7,l8] st H Q = M29 48 [l0,.val (.int v),l2,l3,l4,l5,l6,l7,l8] (.int v::st) H Q:=w_x (show decode kb29 47 = .ok (.iload_n 1,1) from by decide +kernel) rfl
theorem m29_48 : M29 48 ls (.int y::.int x::st) H Q = if x = y then M29 54 ls st H Q else M29 51 ls st H Q:=w_icmp (show decode kb29 48 = .ok (.if_icmp .eq 6,3) from by decide +kernel) (i_eq x y) rfl
theorem m29_51 : M29 51 ls st H Q = M29 132 ls st H Q:=w_x (show decode kb29 51 = .ok (.goto 81,3) from by decide +kernel) rfl
theorem m29_54 : M29 54 [l0,l1,.val (.int v),l3,l4,l5,l6,l7,l8] st H Q = M29 55 [l0,l1,.val (.int v),l3,l4,l5,l6,l7,l8] (.int v::st) H Q:=w_x (show decode kb29 54 = .ok (.iload_n 2,1) from by decide +kernel) rfl
theorem m29_55 : M29 55 [.val (.ref r),l1,l2,l3,l4,l5,l6,l7,l8] st H Q = M29 56 [.val (.ref r),l1,l2,l3,l4,l5,l6,l7,l8] (.ref r::st) H Q:=w_x (show decode kb29 55 = .ok (.aload_n 0,1) from by decide +kernel) rfl
theorem m29_56 : M29 56 [l0,l1,l2,l3,l4,l5,.val (.int v),l7,l8] st H Q = M29 58 [l0,l1,l2,l3,l4,l5,.val (.int v),l7,l8] (.int v::st) H Q:=w_x (show decode kb29 56 = .ok (.iload 6,2) from by decide +kernel) rfl
theorem m29_58 : M29 58 [l0,l1,l2,.val (.int v),l4,l5,l6,l7,l8] st H Q = M29 59 [l0,l1,l2,.val (.int v),l4,l5,l6,l7,l8] (.int v::st) H Q:=w_x (show decode kb29 58 = .ok (.iload_n 3,1) from by decide +kernel) rfl
theorem cr29_121 : vR tables_1 dn y29 121 = some (true,y14,prog_1_method_19_code,3,(some .int),2,1):=pR_of (cR_of (by decide +kernel) rc_14 dn_14 dn_29 (sig:=⟨[.int,.int],some .int⟩) (by decide +kernel) (by decide +kernel) rfl rfl) (by decide +kernel) (by decide +kernel)
theorem m29_59 (a0 : Int32) (a1 : Int32) (u0 : Int32) : M29 59 ls [.int a1,.int a0,.ref (b + 1),.int u0] (put (b + 1) pre s A post) Q = M14 0 [.val (.ref (b + 1)),.val (.int a0),.val (.int a1)] [] (put (b + 1) pre s A post) (fun v H1 => M29 62 ls (v.toList ++ [.int u0]) H1 Q):=w_virt (as:=[.int a1,.int a0]) (rest:=[.int u0]) (a:=(b + 1)) (show decode kb29 59 = .ok (.invokevirtual 121,3) from by decide +kernel) cr29_121 put_o rfl rfl (Nat.le_of_ble_eq_true rfl) (by show 3≤3; omega) rfl
theorem m29_62 : M29 62 ls (.int y::.int x::st) H Q = M29 63 ls (.int (x - y)::st) H Q:=w_x (show decode kb29 62 = .ok (.isub,1) from by decide +kernel) rfl
theorem m29_63u : M29 63 [l0,l1,l2,l3,l4,l5,l6,.unset,l8] ((.int v)::st) H Q = M29 65 [l0,l1,l2,l3,l4,l5,l6,.val (.int v),l8] st H Q:=w_st (i:=7) (p:=isI) (show decode kb29 63 = .ok (.istore 7,2) from by decide +kernel) rfl rfl rfl rfl rfl rfl
theorem m29_63i : M29 63 [l0,l1,l2,l3,l4,l5,l6,.val (.int z),l8] ((.int v)::st) H Q = M29 65 [l0,l1,l2,l3,l4,l5,l6,.val (.int v),l8] st H Q:=w_st (i:=7) (p:=isI) (show decode kb29 63 = .ok (.istore 7,2) from by decide +kernel) rfl rfl rfl rfl rfl rfl
theorem m29_63r : M29 63 [l0,l1,l2,l3,l4,l5,l6,.val (.ref q),l8] ((.int v)::st) H Q = M29 65 [l0,l1,l2,l3,l4,l5,l6,.val (.int v),l8] st H Q:=w_st (i:=7) (p:=isI) (show decode kb29 63 = .ok (.istore 7,2) from by decide +kernel) rfl rfl rfl rfl rfl rfl
theorem m29_63g (h : okS l7) : M29 63 [l0,l1,l2,l3,l4,l5,l6,l7,l8] ((.int v)::st) H Q = M29 65 [l0,l1,l2,l3,l4,l5,l6,.val (.int v),l8] st H Q:=by rcases h with rfl | ⟨z,rfl⟩ <;> first | exact m29_63u | exact m29_63i
theorem m29_65 : M29 65 ls st H Q = M29 66 ls (.int 0::st) H Q:=w_con (show decode kb29 65 = .ok (.iconst 0,1) from by decide +kernel) rfl (by decide)
theorem m29_66u : M29 66 [l0,l1,l2,l3,l4,l5,l6,l7,.unset] ((.int v)::st) H Q = M29 68 [l0,l1,l2,l3,l4,l5,l6,l7,.val (.int v)] st H Q:=w_st (i:=8) (p:=isI) (show decode kb29 66 = .ok (.istore 8,2) from by decide +kernel) rfl rfl rfl rfl rfl rfl
theorem m29_66i : M29 66 [l0,l1,l2,l3,l4,l5,l6,l7,.val (.int z)] ((.int v)::st) H Q = M29 68 [l0,l1,l2,l3,l4,l5,l6,l7,.val (.int v)] st H Q:=w_st (i:=8) (p:=isI) (show decode kb29 66 = .ok (.istore 8,2) from by decide +kernel) rfl rfl rfl rfl rfl rfl
theorem m29_66r : M29 66 [l0,l1,l2,l3,l4,l5,l6,l7,.val (.ref q)] ((.int v)::st) H Q = M29 68 [l0,l1,l2,l3,l4,l5,l6,l7,.val (.int v)] st H Q:=w_st (i:=8) (p:=isI) (show decode kb29 66 = .ok (.istore 8,2) from by decide +kernel) rfl rfl rfl rfl rfl rfl
theorem m29_66g (h : okS l8) : M29 66 [l0,l1,l2,l3,l4,l5,l6,l7,l8] ((.int v)::st) H Q = M29 68 [l0,l1,l2,l3,l4,l5,l6,l7,.val (.int v)] st H Q:=by rcases h with rfl | ⟨z,rfl⟩ <;> first | exact m29_66u | exact m29_66i
theorem m29_68 : M29 68 [l0,l1,l2,l3,l4,l5,l6,.val (.int v),l8] st H Q = M29 70 [l0,l1,l2,l3,l4,l5,l6,.val (.int v),l8] (.int v::st) H Q:=w_x (show decode kb29 68 = .ok (.iload 7,2) from by decide +kernel) rfl
theorem m29_70 : M29 70 ls (.int x::st) H Q = if x < 0 then M29 93 ls st H Q else M29 73 ls st H Q:=w_if (show decode kb29 70 = .ok (.ifCond .lt 23,3) from by decide +kernel) (z_lt x) rfl
theorem m29_73 : M29 73 [.val (.ref r),l1,l2,l3,l4,l5,l6,l7,l8] st H Q = M29 74 [.val (.ref r),l1,l2,l3,l4,l5,l6,l7,l8] (.ref r::st) H Q:=w_x (show decode kb29 73 = .ok (.aload_n 0,1) from by decide +kernel) rfl
theorem m29_74 : M29 74 ls (.ref (b + 1)::st) (put (b + 1) pre s A post) Q = M29 77 ls (.ref ((b + 1) + 18)::st) (put (b + 1) pre s A post) Q:=w_get (show decode kb29 74 = .ok (.getfield 62,3) from by decide +kernel) gf_62 put_o rfl
theorem m29_77 : M29 77 [.val (.ref r),l1,l2,l3,l4,l5,l6,l7,l8] st H Q = M29 78 [.val (.ref r),l1,l2,l3,l4,l5,l6,l7,l8] (.ref r::st) H Q:=w_x (show decode kb29 77 = .ok (.aload_n 0,1) from by decide +kernel) rfl
theorem m29_78 : M29 78 ls (.ref (b + 1)::st) (put (b + 1) pre s A post) Q = M29 81 ls (.ref ((b + 1) + 4)::st) (put (b + 1) pre s A post) Q:=w_get (show decode kb29 78 = .ok (.getfield 19,3) from by decide +kernel) gf_19 put_o rfl
theorem m29_81 : M29 81 [l0,l1,l2,l3,l4,l5,.val (.int v),l7,l8] st H Q = M29 83 [l0,l1,l2,l3,l4,l5,.val (.int v),l7,l8] (.int v::st) H Q:=w_x (show decode kb29 81 = .ok (.iload 6,2) from by decide +kernel) rfl
theorem m29_83  : M29 83 ls (.int j::.ref ((b + 1) + 4)::st) (put (b + 1) pre s A post) Q = (inB j (A 3)∧M29 84 ls (.int (getA (A 3) j)::st) (put (b + 1) pre s A post) Q):=w_ild (show decode kb29 83 = .ok (.iaload,1) from by decide +kernel) rfl put_a3
theorem m29_84 : M29 84 ls st H Q = M29 86 ls (.int 32::st) H Q:=w_con (show decode kb29 84 = .ok (.bipush 32,2) from by decide +kernel) rfl (by decide)
theorem m29_86 : M29 86 ls (.int y::.int x::st) H Q = M29 87 ls (.int (x * y)::st) H Q:=w_x (show decode kb29 86 = .ok (.imul,1) from by decide +kernel) rfl
theorem m29_87 : M29 87 [l0,l1,l2,l3,l4,l5,l6,.val (.int v),l8] st H Q = M29 89 [l0,l1,l2,l3,l4,l5,l6,.val (.int v),l8] (.int v::st) H Q:=w_x (show decode kb29 87 = .ok (.iload 7,2) from by decide +kernel) rfl
theorem m29_89 : M29 89 ls (.int y::.int x::st) H Q = M29 90 ls (.int (x + y)::st) H Q:=w_x (show decode kb29 89 = .ok (.iadd,1) from by decide +kernel) rfl
theorem m29_90  : M29 90 ls (.int j::.ref ((b + 1) + 18)::st) (put (b + 1) pre s A post) Q = (inB j (A 17)∧M29 91 ls (.int (getA (A 17) j)::st) (put (b + 1) pre s A post) Q):=w_ild (show decode kb29 90 = .ok (.iaload,1) from by decide +kernel) rfl put_a17
theorem m29_91i : M29 91 [l0,l1,l2,l3,l4,l5,l6,l7,.val (.int z)] ((.int v)::st) H Q = M29 93 [l0,l1,l2,l3,l4,l5,l6,l7,.val (.int v)] st H Q:=w_st (i:=8) (p:=isI) (show decode kb29 91 = .ok (.istore 8,2) from by decide +kernel) rfl rfl rfl rfl rfl rfl
theorem m29_93 : M29 93 [l0,l1,l2,l3,.val (.int v),l5,l6,l7,l8] st H Q = M29 95 [l0,l1,l2,l3,.val (.int v),l5,l6,l7,l8] (.int v::st) H Q:=w_x (show decode kb29 93 = .ok (.iload 4,2) from by decide +kernel) rfl
theorem m29_95 : M29 95 ls st H Q = M29 96 ls (.int 1::st) H Q:=w_con (show decode kb29 95 = .ok (.iconst 1,1) from by decide +kernel) rfl (by decide)
theorem m29_96 : M29 96 ls (.int y::.int x::st) H Q = if x = y then M29 99 ls st H Q else M29 109 ls st H Q:=w_icmpN (show decode kb29 96 = .ok (.if_icmp .ne 13,3) from by decide +kernel) (i_ne x y) rfl
theorem m29_99 : M29 99 [l0,l1,l2,l3,l4,.val (.int v),l6,l7,l8] st H Q = M29 101 [l0,l1,l2,l3,l4,.val (.int v),l6,l7,l8] (.int v::st) H Q:=w_x (show decode kb29 99 = .ok (.iload 5,2) from by decide +kernel) rfl
theorem m29_101 : M29 101 [l0,l1,l2,l3,l4,l5,l6,l7,.val (.int v)] st H Q = M29 103 [l0,l1,l2,l3,l4,l5,l6,l7,.val (.int v)] (.int v::st) H Q:=w_x (show decode kb29 101 = .ok (.iload 8,2) from by decide +kernel) rfl
theorem m29_103 : M29 103 ls (.int y::.int x::st) H Q = M29 104 ls (.int (x + y)::st) H Q:=w_x (show decode kb29 103 = .ok (.iadd,1) from by decide +kernel) rfl
theorem m29_104i : M29 104 [l0,l1,l2,l3,l4,.val (.int z),l6,l7,l8] ((.int v)::st) H Q = M29 106 [l0,l1,l2,l3,l4,.val (.int v),l6,l7,l8] st H Q:=w_st (i:=5) (p:=isI) (show decode kb29 104 = .ok (.istore 5,2) from by decide +kernel) rfl rfl rfl rfl rfl rfl
theorem m29_106 : M29 106 ls st H Q = M29 132 ls st H Q:=w_x (show decode kb29 106 = .ok (.goto 26,3) from by decide +kernel) rfl
theorem m29_109 : M29 109 [l0,l1,l2,l3,.val (.int v),l5,l6,l7,l8] st H Q = M29 111 [l0,l1,l2,l3,.val (.int v),l5,l6,l7,l8] (.int v::st) H Q:=w_x (show decode kb29 109 = .ok (.iload 4,2) from by decide +kernel) rfl
theorem m29_111 : M29 111 ls st H Q = M29 112 ls (.int 2::st) H Q:=w_con (show decode kb29 111 = .ok (.iconst 2,1) from by decide +kernel) rfl (by decide)
theorem m29_112 : M29 112 ls (.int y::.int x::st) H Q = if x = y then M29 115 ls st H Q else M29 125 ls st H Q:=w_icmpN (show decode kb29 112 = .ok (.if_icmp .ne 13,3) from by decide +kernel) (i_ne x y) rfl
theorem m29_115 : M29 115 [l0,l1,l2,l3,l4,.val (.int v),l6,l7,l8] st H Q = M29 117 [l0,l1,l2,l3,l4,.val (.int v),l6,l7,l8] (.int v::st) H Q:=w_x (show decode kb29 115 = .ok (.iload 5,2) from by decide +kernel) rfl
theorem m29_117 : M29 117 [l0,l1,l2,l3,l4,l5,l6,l7,.val (.int v)] st H Q = M29 119 [l0,l1,l2,l3,l4,l5,l6,l7,.val (.int v)] (.int v::st) H Q:=w_x (show decode kb29 117 = .ok (.iload 8,2) from by decide +kernel) rfl
theorem m29_119 : M29 119 ls (.int y::.int x::st) H Q = M29 120 ls (.int (x ^^^ y)::st) H Q:=w_x (show decode kb29 119 = .ok (.ixor,1) from by decide +kernel) rfl
theorem m29_120i : M29 120 [l0,l1,l2,l3,l4,.val (.int z),l6,l7,l8] ((.int v)::st) H Q = M29 122 [l0,l1,l2,l3,l4,.val (.int v),l6,l7,l8] st H Q:=w_st (i:=5) (p:=isI) (show decode kb29 120 = .ok (.istore 5,2) from by decide +kernel) rfl rfl rfl rfl rfl rfl
theorem m29_122 : M29 122 ls st H Q = M29 132 ls st H Q:=w_x (show decode kb29 122 = .ok (.goto 10,3) from by decide +kernel) rfl
theorem m29_125 : M29 125 [l0,l1,l2,l3,l4,.val (.int v),l6,l7,l8] st H Q = M29 127 [l0,l1,l2,l3,l4,.val (.int v),l6,l7,l8] (.int v::st) H Q:=w_x (show decode kb29 125 = .ok (.iload 5,2) from by decide +kernel) rfl
theorem m29_127 : M29 127 [l0,l1,l2,l3,l4,l5,l6,l7,.val (.int v)] st H Q = M29 129 [l0,l1,l2,l3,l4,l5,l6,l7,.val (.int v)] (.int v::st) H Q:=w_x (show decode kb29 127 = .ok (.iload 8,2) from by decide +kernel) rfl
theorem m29_129 : M29 129 ls (.int y::.int x::st) H Q = M29 130 ls (.int (x &&& y)::st) H Q:=w_x (show decode kb29 129 = .ok (.iand,1) from by decide +kernel) rfl
theorem m29_130i : M29 130 [l0,l1,l2,l3,l4,.val (.int z),l6,l7,l8] ((.int v)::st) H Q = M29 132 [l0,l1,l2,l3,l4,.val (.int v),l6,l7,l8] st H Q:=w_st (i:=5) (p:=isI) (show decode kb29 130 = .ok (.istore 5,2) from by decide +kernel) rfl rfl rfl rfl rfl rfl
theorem m29_132 : M29 132 [l0,l1,l2,l3,l4,l5,.val (.int v),l7,l8] st H Q = M29 135 [l0,l1,l2,l3,l4,l5,.val (.int (v + 1)),l7,l8] st H Q:=w_iinc (show decode kb29 132 = .ok (.iinc 6 1,3) from by decide +kernel) rfl (by decide) rfl
theorem m29_135 : M29 135 ls st H Q = M29 31 ls st H Q:=w_x (show decode kb29 135 = .ok (.goto (-104),3) from by decide +kernel) rfl
theorem m29_138 : M29 138 [l0,l1,l2,l3,l4,.val (.int v),l6,l7,l8] st H Q = M29 140 [l0,l1,l2,l3,l4,.val (.int v),l6,l7,l8] (.int v::st) H Q:=w_x (show decode kb29 138 = .ok (.iload 5,2) from by decide +kernel) rfl
theorem m29_140 : M29 140 ls (.int z::st) H Q = Q (some (.int z)) H:=w_iret (show decode kb29 140 = .ok (.ireturn,1) from by decide +kernel) rfl
theorem m30_0 : M30 0 ls st H Q = M30 1 ls (.int 0::st) H Q:=w_con (show decode kb30 0 = .ok (.iconst 0,1) from by decide +kernel) rfl (by decide)
theorem m30_1u : M30 1 [l0,l1,.unset,l3] ((.int v)::st) H Q = M30 2 [l0,l1,.val (.int v),l3] st H Q:=w_st (i:=2) (p:=isI) (show decode kb30 1 = .ok (.istore_n 2,1) from by decide +kernel) rfl rfl rfl rfl rfl rfl
theorem m30_2 : M30 2 [l0,l1,.val (.int v),l3] st H Q = M30 3 [l0,l1,.val (.int v),l3] (.int v::st) H Q:=w_x (show decode kb30 2 = .ok (.iload_n 2,1) from by decide +kernel) rfl
theorem m30_3 : M30 3 ls st H Q = M30 4 ls (.int 4::st) H Q:=w_con (show decode kb30 3 = .ok (.iconst 4,1) from by decide +kernel) rfl (by decide)
theorem m30_4 : M30 4 ls (.int y::.int x::st) H Q = M30 5 ls (.int (x + y)::st) H Q:=w_x (show decode kb30 4 = .ok (.iadd,1) from by decide +kernel) rfl
theorem m30_5 : M30 5 [l0,.val (.ref r),l2,l3] st H Q = M30 6 [l0,.val (.ref r),l2,l3] (.ref r::st) H Q:=w_x (show decode kb30 5 = .ok (.aload_n 1,1) from by decide +kernel) rfl
theorem m30_6 : M30 6 ls (.ref 0::st) ((.array .int,sc.map Value.int)::R) Q = M30 7 ls (.int sc.length.toInt32::st) ((.array .int,sc.map Value.int)::R) Q:=by exact (w_len (show decode kb30 6 = .ok (.arraylength,1) from by decide +kernel) rfl).trans (by rw [List.length_map]; rfl)
theorem m30_6p : M30 6 ls (.ref 0::st) (put (b + 1) ((.array .int,sc.map Value.int)::pre) s A post) Q = M30 7 ls (.int sc.length.toInt32::st) (put (b + 1) ((.array .int,sc.map Value.int)::pre) s A post) Q:=by exact (w_len (show decode kb30 6 = .ok (.arraylength,1) from by decide +kernel) rfl).trans (by rw [List.length_map]; rfl)
theorem m30_7 : M30 7 ls (.int y::.int x::st) H Q = if y < x then M30 144 ls st H Q else M30 10 ls st H Q:=w_icmp (show decode kb30 7 = .ok (.if_icmp .gt 137,3) from by decide +kernel) (i_gt x y) rfl
theorem m30_10 : M30 10 [l0,.val (.ref r),l2,l3] st H Q = M30 11 [l0,.val (.ref r),l2,l3] (.ref r::st) H Q:=w_x (show decode kb30 10 = .ok (.aload_n 1,1) from by decide +kernel) rfl
theorem m30_11 : M30 11 [l0,l1,.val (.int v),l3] st H Q = M30 12 [l0,l1,.val (.int v),l3] (.int v::st) H Q:=w_x (show decode kb30 11 = .ok (.iload_n 2,1) from by decide +kernel) rfl
theorem m30_12 : M30 12 ls (.int j::.ref 0::st) ((.array .int,sc.map Value.int)::R) Q = (inB j sc∧M30 13 ls (.int (getA sc j)::st) ((.array .int,sc.map Value.int)::R) Q):=w_ild (show decode kb30 12 = .ok (.iaload,1) from by decide +kernel) rfl rfl
theorem m30_12p : M30 12 ls (.int j::.ref 0::st) (put (b + 1) ((.array .int,sc.map Value.int)::pre) s A post) Q = (inB j sc∧M30 13 ls (.int (getA sc j)::st) (put (b + 1) ((.array .int,sc.map Value.int)::pre) s A post) Q):=w_ild (show decode kb30 12 = .ok (.iaload,1) from by decide +kernel) rfl rfl
theorem m30_13 : M30 13 ls st H Q = M30 15 ls (.int 7::st) H Q:=w_con (show decode kb30 13 = .ok (.bipush 7,2) from by decide +kernel) rfl (by decide)
theorem m30_15 : M30 15 ls (.int y::.int x::st) H Q = M30 16 ls (.int (x &&& y)::st) H Q:=w_x (show decode kb30 15 = .ok (.iand,1) from by decide +kernel) rfl
theorem m30_16u : M30 16 [l0,l1,l2,.unset] ((.int v)::st) H Q = M30 17 [l0,l1,l2,.val (.int v)] st H Q:=w_st (i:=3) (p:=isI) (show decode kb30 16 = .ok (.istore_n 3,1) from by decide +kernel) rfl rfl rfl rfl rfl rfl
theorem m30_16i : M30 16 [l0,l1,l2,.val (.int z)] ((.int v)::st) H Q = M30 17 [l0,l1,l2,.val (.int v)] st H Q:=w_st (i:=3) (p:=isI) (show decode kb30 16 = .ok (.istore_n 3,1) from by decide +kernel) rfl rfl rfl rfl rfl rfl
theorem m30_16r : M30 16 [l0,l1,l2,.val (.ref q)] ((.int v)::st) H Q = M30 17 [l0,l1,l2,.val (.int v)] st H Q:=w_st (i:=3) (p:=isI) (show decode kb30 16 = .ok (.istore_n 3,1) from by decide +kernel) rfl rfl rfl rfl rfl rfl
theorem m30_16g (h : okS l3) : M30 16 [l0,l1,l2,l3] ((.int v)::st) H Q = M30 17 [l0,l1,l2,.val (.int v)] st H Q:=by rcases h with rfl | ⟨z,rfl⟩ <;> first | exact m30_16u | exact m30_16i
theorem m30_17 : M30 17 [l0,l1,l2,.val (.int v)] st H Q = M30 18 [l0,l1,l2,.val (.int v)] (.int v::st) H Q:=w_x (show decode kb30 17 = .ok (.iload_n 3,1) from by decide +kernel) rfl
theorem m30_18 : M30 18 ls (.int x::st) H Q = if x = 0 then M30 21 ls st H Q else M30 44 ls st H Q:=w_ifN (show decode kb30 18 = .ok (.ifCond .ne 26,3) from by decide +kernel) (z_ne x) rfl
theorem m30_21 : M30 21 [.val (.ref r),l1,l2,l3] st H Q = M30 22 [.val (.ref r),l1,l2,l3] (.ref r::st) H Q:=w_x (show decode kb30 21 = .ok (.aload_n 0,1) from by decide +kernel) rfl
theorem m30_22 : M30 22 [l0,.val (.ref r),l2,l3] st H Q = M30 23 [l0,.val (.ref r),l2,l3] (.ref r::st) H Q:=w_x (show decode kb30 22 = .ok (.aload_n 1,1) from by decide +kernel) rfl
theorem m30_23 : M30 23 [l0,l1,.val (.int v),l3] st H Q = M30 24 [l0,l1,.val (.int v),l3] (.int v::st) H Q:=w_x (show decode kb30 23 = .ok (.iload_n 2,1) from by decide +kernel) rfl
theorem m30_24 : M30 24 ls st H Q = M30 25 ls (.int 1::st) H Q:=w_con (show decode kb30 24 = .ok (.iconst 1,1) from by decide +kernel) rfl (by decide)
theorem m30_25 : M30 25 ls (.int y::.int x::st) H Q = M30 26 ls (.int (x + y)::st) H Q:=w_x (show decode kb30 25 = .ok (.iadd,1) from by decide +kernel) rfl
theorem m30_26 : M30 26 ls (.int j::.ref 0::st) ((.array .int,sc.map Value.int)::R) Q = (inB j sc∧M30 27 ls (.int (getA sc j)::st) ((.array .int,sc.map Value.int)::R) Q):=w_ild (show decode kb30 26 = .ok (.iaload,1) from by decide +kernel) rfl rfl
theorem m30_26p : M30 26 ls (.int j::.ref 0::st) (put (b + 1) ((.array .int,sc.map Value.int)::pre) s A post) Q = (inB j sc∧M30 27 ls (.int (getA sc j)::st) (put (b + 1) ((.array .int,sc.map Value.int)::pre) s A post) Q):=w_ild (show decode kb30 26 = .ok (.iaload,1) from by decide +kernel) rfl rfl
theorem m30_27 : M30 27 [l0,.val (.ref r),l2,l3] st H Q = M30 28 [l0,.val (.ref r),l2,l3] (.ref r::st) H Q:=w_x (show decode kb30 27 = .ok (.aload_n 1,1) from by decide +kernel) rfl
theorem m30_28 : M30 28 [l0,l1,.val (.int v),l3] st H Q = M30 29 [l0,l1,.val (.int v),l3] (.int v::st) H Q:=w_x (show decode kb30 28 = .ok (.iload_n 2,1) from by decide +kernel) rfl
theorem m30_29 : M30 29 ls st H Q = M30 30 ls (.int 2::st) H Q:=w_con (show decode kb30 29 = .ok (.iconst 2,1) from by decide +kernel) rfl (by decide)
theorem m30_30 : M30 30 ls (.int y::.int x::st) H Q = M30 31 ls (.int (x + y)::st) H Q:=w_x (show decode kb30 30 = .ok (.iadd,1) from by decide +kernel) rfl
theorem m30_31 : M30 31 ls (.int j::.ref 0::st) ((.array .int,sc.map Value.int)::R) Q = (inB j sc∧M30 32 ls (.int (getA sc j)::st) ((.array .int,sc.map Value.int)::R) Q):=w_ild (show decode kb30 31 = .ok (.iaload,1) from by decide +kernel) rfl rfl
theorem m30_31p : M30 31 ls (.int j::.ref 0::st) (put (b + 1) ((.array .int,sc.map Value.int)::pre) s A post) Q = (inB j sc∧M30 32 ls (.int (getA sc j)::st) (put (b + 1) ((.array .int,sc.map Value.int)::pre) s A post) Q):=w_ild (show decode kb30 31 = .ok (.iaload,1) from by decide +kernel) rfl rfl
theorem m30_32 : M30 32 [l0,.val (.ref r),l2,l3] st H Q = M30 33 [l0,.val (.ref r),l2,l3] (.ref r::st) H Q:=w_x (show decode kb30 32 = .ok (.aload_n 1,1) from by decide +kernel) rfl
theorem m30_33 : M30 33 [l0,l1,.val (.int v),l3] st H Q = M30 34 [l0,l1,.val (.int v),l3] (.int v::st) H Q:=w_x (show decode kb30 33 = .ok (.iload_n 2,1) from by decide +kernel) rfl
theorem m30_34 : M30 34 ls st H Q = M30 35 ls (.int 3::st) H Q:=w_con (show decode kb30 34 = .ok (.iconst 3,1) from by decide +kernel) rfl (by decide)
theorem m30_35 : M30 35 ls (.int y::.int x::st) H Q = M30 36 ls (.int (x + y)::st) H Q:=w_x (show decode kb30 35 = .ok (.iadd,1) from by decide +kernel) rfl
theorem m30_36 : M30 36 ls (.int j::.ref 0::st) ((.array .int,sc.map Value.int)::R) Q = (inB j sc∧M30 37 ls (.int (getA sc j)::st) ((.array .int,sc.map Value.int)::R) Q):=w_ild (show decode kb30 36 = .ok (.iaload,1) from by decide +kernel) rfl rfl
theorem m30_36p : M30 36 ls (.int j::.ref 0::st) (put (b + 1) ((.array .int,sc.map Value.int)::pre) s A post) Q = (inB j sc∧M30 37 ls (.int (getA sc j)::st) (put (b + 1) ((.array .int,sc.map Value.int)::pre) s A post) Q):=w_ild (show decode kb30 36 = .ok (.iaload,1) from by decide +kernel) rfl rfl
theorem cr30_27 : vR tables_1 dn y30 27 = some (false,y3,prog_1_method_2_code,4,(some .int),3,52):=vR_of (cR_of (by decide +kernel) rc_3 dn_3 dn_30 (sig:=⟨[.int,.int,.int],some .int⟩) (by decide +kernel) (by decide +kernel) rfl rfl) (by decide +kernel) (by decide +kernel) (by decide +kernel)
theorem m30_37 (a0 : Int32) (a1 : Int32) (a2 : Int32) : M30 37 ls [.int a2,.int a1,.int a0,.ref (b + 1)] (put (b + 1) pre s A post) Q = M3 0 [.val (.ref (b + 1)),.val (.int a0),.val (.int a1),.val (.int a2)] [] (put (b + 1) pre s A post) (fun v H1 => M30 40 ls (v.toList ++ []) H1 Q):=w_virt (as:=[.int a2,.int a1,.int a0]) (rest:=[]) (a:=(b + 1)) (show decode kb30 37 = .ok (.invokevirtual 27,3) from by decide +kernel) cr30_27 put_o rfl rfl (Nat.le_of_ble_eq_true rfl) (by show 4≤4; omega) rfl
theorem m30_40 : M30 40 ls ((.int v)::st) H Q = M30 41 ls st H Q:=w_x (show decode kb30 40 = .ok (.pop,1) from by decide +kernel) rfl
theorem m30_41 : M30 41 ls st H Q = M30 138 ls st H Q:=w_x (show decode kb30 41 = .ok (.goto 97,3) from by decide +kernel) rfl
theorem m30_44 : M30 44 [l0,l1,l2,.val (.int v)] st H Q = M30 45 [l0,l1,l2,.val (.int v)] (.int v::st) H Q:=w_x (show decode kb30 44 = .ok (.iload_n 3,1) from by decide +kernel) rfl
theorem m30_45 : M30 45 ls st H Q = M30 46 ls (.int 1::st) H Q:=w_con (show decode kb30 45 = .ok (.iconst 1,1) from by decide +kernel) rfl (by decide)
theorem m30_46 : M30 46 ls (.int y::.int x::st) H Q = if x = y then M30 55 ls st H Q else M30 49 ls st H Q:=w_icmp (show decode kb30 46 = .ok (.if_icmp .eq 9,3) from by decide +kernel) (i_eq x y) rfl
theorem m30_49 : M30 49 [l0,l1,l2,.val (.int v)] st H Q = M30 50 [l0,l1,l2,.val (.int v)] (.int v::st) H Q:=w_x (show decode kb30 49 = .ok (.iload_n 3,1) from by decide +kernel) rfl
theorem m30_50 : M30 50 ls st H Q = M30 52 ls (.int 7::st) H Q:=w_con (show decode kb30 50 = .ok (.bipush 7,2) from by decide +kernel) rfl (by decide)
theorem m30_52 : M30 52 ls (.int y::.int x::st) H Q = if x = y then M30 55 ls st H Q else M30 78 ls st H Q:=w_icmpN (show decode kb30 52 = .ok (.if_icmp .ne 26,3) from by decide +kernel) (i_ne x y) rfl
theorem m30_55 : M30 55 [.val (.ref r),l1,l2,l3] st H Q = M30 56 [.val (.ref r),l1,l2,l3] (.ref r::st) H Q:=w_x (show decode kb30 55 = .ok (.aload_n 0,1) from by decide +kernel) rfl
theorem m30_56 : M30 56 [l0,.val (.ref r),l2,l3] st H Q = M30 57 [l0,.val (.ref r),l2,l3] (.ref r::st) H Q:=w_x (show decode kb30 56 = .ok (.aload_n 1,1) from by decide +kernel) rfl
theorem m30_57 : M30 57 [l0,l1,.val (.int v),l3] st H Q = M30 58 [l0,l1,.val (.int v),l3] (.int v::st) H Q:=w_x (show decode kb30 57 = .ok (.iload_n 2,1) from by decide +kernel) rfl
theorem m30_58 : M30 58 ls st H Q = M30 59 ls (.int 1::st) H Q:=w_con (show decode kb30 58 = .ok (.iconst 1,1) from by decide +kernel) rfl (by decide)
theorem m30_59 : M30 59 ls (.int y::.int x::st) H Q = M30 60 ls (.int (x + y)::st) H Q:=w_x (show decode kb30 59 = .ok (.iadd,1) from by decide +kernel) rfl
theorem m30_60 : M30 60 ls (.int j::.ref 0::st) ((.array .int,sc.map Value.int)::R) Q = (inB j sc∧M30 61 ls (.int (getA sc j)::st) ((.array .int,sc.map Value.int)::R) Q):=w_ild (show decode kb30 60 = .ok (.iaload,1) from by decide +kernel) rfl rfl
theorem m30_60p : M30 60 ls (.int j::.ref 0::st) (put (b + 1) ((.array .int,sc.map Value.int)::pre) s A post) Q = (inB j sc∧M30 61 ls (.int (getA sc j)::st) (put (b + 1) ((.array .int,sc.map Value.int)::pre) s A post) Q):=w_ild (show decode kb30 60 = .ok (.iaload,1) from by decide +kernel) rfl rfl
theorem m30_61 : M30 61 [l0,.val (.ref r),l2,l3] st H Q = M30 62 [l0,.val (.ref r),l2,l3] (.ref r::st) H Q:=w_x (show decode kb30 61 = .ok (.aload_n 1,1) from by decide +kernel) rfl
theorem m30_62 : M30 62 [l0,l1,.val (.int v),l3] st H Q = M30 63 [l0,l1,.val (.int v),l3] (.int v::st) H Q:=w_x (show decode kb30 62 = .ok (.iload_n 2,1) from by decide +kernel) rfl
theorem m30_63 : M30 63 ls st H Q = M30 64 ls (.int 2::st) H Q:=w_con (show decode kb30 63 = .ok (.iconst 2,1) from by decide +kernel) rfl (by decide)
theorem m30_64 : M30 64 ls (.int y::.int x::st) H Q = M30 65 ls (.int (x + y)::st) H Q:=w_x (show decode kb30 64 = .ok (.iadd,1) from by decide +kernel) rfl
theorem m30_65 : M30 65 ls (.int j::.ref 0::st) ((.array .int,sc.map Value.int)::R) Q = (inB j sc∧M30 66 ls (.int (getA sc j)::st) ((.array .int,sc.map Value.int)::R) Q):=w_ild (show decode kb30 65 = .ok (.iaload,1) from by decide +kernel) rfl rfl
theorem m30_65p : M30 65 ls (.int j::.ref 0::st) (put (b + 1) ((.array .int,sc.map Value.int)::pre) s A post) Q = (inB j sc∧M30 66 ls (.int (getA sc j)::st) (put (b + 1) ((.array .int,sc.map Value.int)::pre) s A post) Q):=w_ild (show decode kb30 65 = .ok (.iaload,1) from by decide +kernel) rfl rfl
theorem m30_66 : M30 66 [l0,.val (.ref r),l2,l3] st H Q = M30 67 [l0,.val (.ref r),l2,l3] (.ref r::st) H Q:=w_x (show decode kb30 66 = .ok (.aload_n 1,1) from by decide +kernel) rfl
theorem m30_67 : M30 67 [l0,l1,.val (.int v),l3] st H Q = M30 68 [l0,l1,.val (.int v),l3] (.int v::st) H Q:=w_x (show decode kb30 67 = .ok (.iload_n 2,1) from by decide +kernel) rfl
theorem m30_68 : M30 68 ls st H Q = M30 69 ls (.int 3::st) H Q:=w_con (show decode kb30 68 = .ok (.iconst 3,1) from by decide +kernel) rfl (by decide)
theorem m30_69 : M30 69 ls (.int y::.int x::st) H Q = M30 70 ls (.int (x + y)::st) H Q:=w_x (show decode kb30 69 = .ok (.iadd,1) from by decide +kernel) rfl
theorem m30_70 : M30 70 ls (.int j::.ref 0::st) ((.array .int,sc.map Value.int)::R) Q = (inB j sc∧M30 71 ls (.int (getA sc j)::st) ((.array .int,sc.map Value.int)::R) Q):=w_ild (show decode kb30 70 = .ok (.iaload,1) from by decide +kernel) rfl rfl
theorem m30_70p : M30 70 ls (.int j::.ref 0::st) (put (b + 1) ((.array .int,sc.map Value.int)::pre) s A post) Q = (inB j sc∧M30 71 ls (.int (getA sc j)::st) (put (b + 1) ((.array .int,sc.map Value.int)::pre) s A post) Q):=w_ild (show decode kb30 70 = .ok (.iaload,1) from by decide +kernel) rfl rfl
theorem cr30_31 : vR tables_1 dn y30 31 = some (false,y2,prog_1_method_3_code,4,(some .int),3,52):=vR_of (cR_of (by decide +kernel) rc_2 dn_2 dn_30 (sig:=⟨[.int,.int,.int],some .int⟩) (by decide +kernel) (by decide +kernel) rfl rfl) (by decide +kernel) (by decide +kernel) (by decide +kernel)
theorem m30_71 (a0 : Int32) (a1 : Int32) (a2 : Int32) : M30 71 ls [.int a2,.int a1,.int a0,.ref (b + 1)] (put (b + 1) pre s A post) Q = M2 0 [.val (.ref (b + 1)),.val (.int a0),.val (.int a1),.val (.int a2)] [] (put (b + 1) pre s A post) (fun v H1 => M30 74 ls (v.toList ++ []) H1 Q):=w_virt (as:=[.int a2,.int a1,.int a0]) (rest:=[]) (a:=(b + 1)) (show decode kb30 71 = .ok (.invokevirtual 31,3) from by decide +kernel) cr30_31 put_o rfl rfl (Nat.le_of_ble_eq_true rfl) (by show 4≤4; omega) rfl
theorem m30_74 : M30 74 ls ((.int v)::st) H Q = M30 75 ls st H Q:=w_x (show decode kb30 74 = .ok (.pop,1) from by decide +kernel) rfl
theorem m30_75 : M30 75 ls st H Q = M30 138 ls st H Q:=w_x (show decode kb30 75 = .ok (.goto 63,3) from by decide +kernel) rfl
theorem m30_78 : M30 78 [l0,l1,l2,.val (.int v)] st H Q = M30 79 [l0,l1,l2,.val (.int v)] (.int v::st) H Q:=w_x (show decode kb30 78 = .ok (.iload_n 3,1) from by decide +kernel) rfl
theorem m30_79 : M30 79 ls st H Q = M30 80 ls (.int 2::st) H Q:=w_con (show decode kb30 79 = .ok (.iconst 2,1) from by decide +kernel) rfl (by decide)
theorem m30_80 : M30 80 ls (.int y::.int x::st) H Q = if x = y then M30 83 ls st H Q else M30 91 ls st H Q:=w_icmpN (show decode kb30 80 = .ok (.if_icmp .ne 11,3) from by decide +kernel) (i_ne x y) rfl
theorem m30_83 : M30 83 [.val (.ref r),l1,l2,l3] st H Q = M30 84 [.val (.ref r),l1,l2,l3] (.ref r::st) H Q:=w_x (show decode kb30 83 = .ok (.aload_n 0,1) from by decide +kernel) rfl
theorem cr30_34 : vR tables_1 dn y30 34 = some (false,y4,prog_1_method_4_code,1,(some .int),0,6):=vR_of (cR_of (by decide +kernel) rc_4 dn_4 dn_30 (sig:=⟨[],some .int⟩) (by decide +kernel) (by decide +kernel) rfl rfl) (by decide +kernel) (by decide +kernel) (by decide +kernel)
theorem m30_84 : M30 84 ls [.ref (b + 1)] (put (b + 1) pre s A post) Q = M4 0 [.val (.ref (b + 1))] [] (put (b + 1) pre s A post) (fun v H1 => M30 87 ls (v.toList ++ []) H1 Q):=w_virt (as:=[]) (rest:=[]) (a:=(b + 1)) (show decode kb30 84 = .ok (.invokevirtual 34,3) from by decide +kernel) cr30_34 put_o rfl rfl (Nat.le_of_ble_eq_true rfl) (by show 1≤1; omega) rfl
theorem m30_87 : M30 87 ls ((.int v)::st) H Q = M30 88 ls st H Q:=w_x (show decode kb30 87 = .ok (.pop,1) from by decide +kernel) rfl
theorem m30_88 : M30 88 ls st H Q = M30 138 ls st H Q:=w_x (show decode kb30 88 = .ok (.goto 50,3) from by decide +kernel) rfl
theorem m30_91 : M30 91 [l0,l1,l2,.val (.int v)] st H Q = M30 92 [l0,l1,l2,.val (.int v)] (.int v::st) H Q:=w_x (show decode kb30 91 = .ok (.iload_n 3,1) from by decide +kernel) rfl
theorem m30_92 : M30 92 ls st H Q = M30 93 ls (.int 3::st) H Q:=w_con (show decode kb30 92 = .ok (.iconst 3,1) from by decide +kernel) rfl (by decide)
theorem m30_93 : M30 93 ls (.int y::.int x::st) H Q = if x = y then M30 96 ls st H Q else M30 109 ls st H Q:=w_icmpN (show decode kb30 93 = .ok (.if_icmp .ne 16,3) from by decide +kernel) (i_ne x y) rfl
theorem m30_96 : M30 96 [.val (.ref r),l1,l2,l3] st H Q = M30 97 [.val (.ref r),l1,l2,l3] (.ref r::st) H Q:=w_x (show decode kb30 96 = .ok (.aload_n 0,1) from by decide +kernel) rfl
theorem m30_97 : M30 97 [l0,.val (.ref r),l2,l3] st H Q = M30 98 [l0,.val (.ref r),l2,l3] (.ref r::st) H Q:=w_x (show decode kb30 97 = .ok (.aload_n 1,1) from by decide +kernel) rfl
theorem m30_98 : M30 98 [l0,l1,.val (.int v),l3] st H Q = M30 99 [l0,l1,.val (.int v),l3] (.int v::st) H Q:=w_x (show decode kb30 98 = .ok (.iload_n 2,1) from by decide +kernel) rfl
theorem m30_99 : M30 99 ls st H Q = M30 100 ls (.int 1::st) H Q:=w_con (show decode kb30 99 = .ok (.iconst 1,1) from by decide +kernel) rfl (by decide)
theorem m30_100 : M30 100 ls (.int y::.int x::st) H Q = M30 101 ls (.int (x + y)::st) H Q:=w_x (show decode kb30 100 = .ok (.iadd,1) from by decide +kernel) rfl
theorem m30_101 : M30 101 ls (.int j::.ref 0::st) ((.array .int,sc.map Value.int)::R) Q = (inB j sc∧M30 102 ls (.int (getA sc j)::st) ((.array .int,sc.map Value.int)::R) Q):=w_ild (show decode kb30 101 = .ok (.iaload,1) from by decide +kernel) rfl rfl
theorem m30_101p : M30 101 ls (.int j::.ref 0::st) (put (b + 1) ((.array .int,sc.map Value.int)::pre) s A post) Q = (inB j sc∧M30 102 ls (.int (getA sc j)::st) (put (b + 1) ((.array .int,sc.map Value.int)::pre) s A post) Q):=w_ild (show decode kb30 101 = .ok (.iaload,1) from by decide +kernel) rfl rfl
theorem cr30_37 : vR tables_1 dn y30 37 = some (false,y1,prog_1_method_13_code,2,(some .boolean),1,54):=vR_of (cR_of (by decide +kernel) rc_1 dn_1 dn_30 (sig:=⟨[.int],some .boolean⟩) (by decide +kernel) (by decide +kernel) rfl rfl) (by decide +kernel) (by decide +kernel) (by decide +kernel)
theorem m30_102 (a0 : Int32) : M30 102 ls [.int a0,.ref (b + 1)] (put (b + 1) pre s A post) Q = M1 0 [.val (.ref (b + 1)),.val (.int a0)] [] (put (b + 1) pre s A post) (fun v H1 => M30 105 ls (v.toList ++ []) H1 Q):=w_virt (as:=[.int a0]) (rest:=[]) (a:=(b + 1)) (show decode kb30 102 = .ok (.invokevirtual 37,3) from by decide +kernel) cr30_37 put_o rfl rfl (Nat.le_of_ble_eq_true rfl) (by show 2≤2; omega) rfl
theorem m30_105 : M30 105 ls ((.int v)::st) H Q = M30 106 ls st H Q:=w_x (show decode kb30 105 = .ok (.pop,1) from by decide +kernel) rfl
theorem m30_106 : M30 106 ls st H Q = M30 138 ls st H Q:=w_x (show decode kb30 106 = .ok (.goto 32,3) from by decide +kernel) rfl
theorem m30_109 : M30 109 [l0,l1,l2,.val (.int v)] st H Q = M30 110 [l0,l1,l2,.val (.int v)] (.int v::st) H Q:=w_x (show decode kb30 109 = .ok (.iload_n 3,1) from by decide +kernel) rfl
theorem m30_110 : M30 110 ls st H Q = M30 111 ls (.int 4::st) H Q:=w_con (show decode kb30 110 = .ok (.iconst 4,1) from by decide +kernel) rfl (by decide)
theorem m30_111 : M30 111 ls (.int y::.int x::st) H Q = if x = y then M30 114 ls st H Q else M30 121 ls st H Q:=w_icmpN (show decode kb30 111 = .ok (.if_icmp .ne 10,3) from by decide +kernel) (i_ne x y) rfl
theorem m30_114 : M30 114 [.val (.ref r),l1,l2,l3] st H Q = M30 115 [.val (.ref r),l1,l2,l3] (.ref r::st) H Q:=w_x (show decode kb30 114 = .ok (.aload_n 0,1) from by decide +kernel) rfl
theorem cr30_41 : vR tables_1 dn y30 41 = some (false,y27,prog_1_method_14_code,1,none,0,55):=vR_of (cR_of (by decide +kernel) rc_27 dn_27 dn_30 (sig:=⟨[],none⟩) (by decide +kernel) (by decide +kernel) rfl rfl) (by decide +kernel) (by decide +kernel) (by decide +kernel)
theorem m30_115 : M30 115 ls [.ref (b + 1)] (put (b + 1) pre s A post) Q = M27 0 [.val (.ref (b + 1))] [] (put (b + 1) pre s A post) (fun v H1 => M30 118 ls (v.toList ++ []) H1 Q):=w_virt (as:=[]) (rest:=[]) (a:=(b + 1)) (show decode kb30 115 = .ok (.invokevirtual 41,3) from by decide +kernel) cr30_41 put_o rfl rfl (Nat.le_of_ble_eq_true rfl) (by show 1≤1; omega) rfl
theorem m30_118 : M30 118 ls st H Q = M30 138 ls st H Q:=w_x (show decode kb30 118 = .ok (.goto 20,3) from by decide +kernel) rfl
theorem m30_121 : M30 121 [l0,l1,l2,.val (.int v)] st H Q = M30 122 [l0,l1,l2,.val (.int v)] (.int v::st) H Q:=w_x (show decode kb30 121 = .ok (.iload_n 3,1) from by decide +kernel) rfl
theorem m30_122 : M30 122 ls st H Q = M30 123 ls (.int 5::st) H Q:=w_con (show decode kb30 122 = .ok (.iconst 5,1) from by decide +kernel) rfl (by decide)
theorem m30_123 : M30 123 ls (.int y::.int x::st) H Q = if x = y then M30 126 ls st H Q else M30 134 ls st H Q:=w_icmpN (show decode kb30 123 = .ok (.if_icmp .ne 11,3) from by decide +kernel) (i_ne x y) rfl
theorem m30_126 : M30 126 [.val (.ref r),l1,l2,l3] st H Q = M30 127 [.val (.ref r),l1,l2,l3] (.ref r::st) H Q:=w_x (show decode kb30 126 = .ok (.aload_n 0,1) from by decide +kernel) rfl
theorem cr30_23 : vR tables_1 dn y30 23 = some (false,y26,prog_1_method_15_code,2,(some .int),0,0):=vR_of (cR_of (by decide +kernel) rc_26 dn_26 dn_30 (sig:=⟨[],some .int⟩) (by decide +kernel) (by decide +kernel) rfl rfl) (by decide +kernel) (by decide +kernel) (by decide +kernel)
theorem m30_127 : M30 127 ls [.ref (b + 1)] (put (b + 1) pre s A post) Q = M26 0 [.val (.ref (b + 1)),.unset] [] (put (b + 1) pre s A post) (fun v H1 => M30 130 ls (v.toList ++ []) H1 Q):=w_virt (as:=[]) (rest:=[]) (a:=(b + 1)) (show decode kb30 127 = .ok (.invokevirtual 23,3) from by decide +kernel) cr30_23 put_o rfl rfl (Nat.le_of_ble_eq_true rfl) (by show 1≤2; omega) rfl
theorem m30_130 : M30 130 ls ((.int v)::st) H Q = M30 131 ls st H Q:=w_x (show decode kb30 130 = .ok (.pop,1) from by decide +kernel) rfl
theorem m30_131 : M30 131 ls st H Q = M30 138 ls st H Q:=w_x (show decode kb30 131 = .ok (.goto 7,3) from by decide +kernel) rfl
theorem m30_134 : M30 134 [.val (.ref r),l1,l2,l3] st H Q = M30 135 [.val (.ref r),l1,l2,l3] (.ref r::st) H Q:=w_x (show decode kb30 134 = .ok (.aload_n 0,1) from by decide +kernel) rfl
theorem cr30_16 : vR tables_1 dn y30 16 = some (false,y15,prog_1_method_17_code,1,none,0,55):=vR_of (cR_of (by decide +kernel) rc_15 dn_15 dn_30 (sig:=⟨[],none⟩) (by decide +kernel) (by decide +kernel) rfl rfl) (by decide +kernel) (by decide +kernel) (by decide +kernel)
theorem m30_135 : M30 135 ls [.ref (b + 1)] (put (b + 1) pre s A post) Q = M15 0 [.val (.ref (b + 1))] [] (put (b + 1) pre s A post) (fun v H1 => M30 138 ls (v.toList ++ []) H1 Q):=w_virt (as:=[]) (rest:=[]) (a:=(b + 1)) (show decode kb30 135 = .ok (.invokevirtual 16,3) from by decide +kernel) cr30_16 put_o rfl rfl (Nat.le_of_ble_eq_true rfl) (by show 1≤1; omega) rfl
theorem m30_138 : M30 138 [l0,l1,.val (.int v),l3] st H Q = M30 141 [l0,l1,.val (.int (v + 4)),l3] st H Q:=w_iinc (show decode kb30 138 = .ok (.iinc 2 4,3) from by decide +kernel) rfl (by decide) rfl
theorem m30_141 : M30 141 ls st H Q = M30 2 ls st H Q:=w_x (show decode kb30 141 = .ok (.goto (-139),3) from by decide +kernel) rfl
theorem m30_144 : M30 144 ls [] H Q = Q none H:=w_vret (show decode kb30 144 = .ok (.return_,1) from by decide +kernel) rfl
theorem m31_0 : M31 0 [.val (.ref r),l1,l2,l3,l4,l5] st H Q = M31 1 [.val (.ref r),l1,l2,l3,l4,l5] (.ref r::st) H Q:=w_x (show decode kb31 0 = .ok (.aload_n 0,1) from by decide +kernel) rfl
theorem cr31_44 : vR tables_1 dn y31 44 = some (false,y16,prog_1_method_5_code,1,(some .int),0,17):=vR_of (cR_of (by decide +kernel) rc_16 dn_16 dn_31 (sig:=⟨[],some .int⟩) (by decide +kernel) (by decide +kernel) rfl rfl) (by decide +kernel) (by decide +kernel) (by decide +kernel)
theorem m31_1 : M31 1 ls [.ref (b + 1)] (put (b + 1) pre s A post) Q = M16 0 [.val (.ref (b + 1))] [] (put (b + 1) pre s A post) (fun v H1 => M31 4 ls (v.toList ++ []) H1 Q):=w_virt (as:=[]) (rest:=[]) (a:=(b + 1)) (show decode kb31 1 = .ok (.invokevirtual 44,3) from by decide +kernel) cr31_44 put_o rfl rfl (Nat.le_of_ble_eq_true rfl) (by show 1≤1; omega) rfl
theorem m31_4u : M31 4 [l0,l1,.unset,l3,l4,l5] ((.int v)::st) H Q = M31 5 [l0,l1,.val (.int v),l3,l4,l5] st H Q:=w_st (i:=2) (p:=isI) (show decode kb31 4 = .ok (.istore_n 2,1) from by decide +kernel) rfl rfl rfl rfl rfl rfl
theorem m31_5 : M31 5 [l0,.val (.ref r),l2,l3,l4,l5] st H Q = M31 6 [l0,.val (.ref r),l2,l3,l4,l5] (.ref r::st) H Q:=w_x (show decode kb31 5 = .ok (.aload_n 1,1) from by decide +kernel) rfl
theorem m31_6 : M31 6 ls [.ref (b + 1)] (put (b + 1) pre s A post) Q = M16 0 [.val (.ref (b + 1))] [] (put (b + 1) pre s A post) (fun v H1 => M31 9 ls (v.toList ++ []) H1 Q):=w_virt (as:=[]) (rest:=[]) (a:=(b + 1)) (show decode kb31 6 = .ok (.invokevirtual 44,3) from by decide +kernel) cr31_44 put_o rfl rfl (Nat.le_of_ble_eq_true rfl) (by show 1≤1; omega) rfl
theorem m31_9u : M31 9 [l0,l1,l2,.unset,l4,l5] ((.int v)::st) H Q = M31 10 [l0,l1,l2,.val (.int v),l4,l5] st H Q:=w_st (i:=3) (p:=isI) (show decode kb31 9 = .ok (.istore_n 3,1) from by decide +kernel) rfl rfl rfl rfl rfl rfl
theorem m31_10 : M31 10 [l0,l1,.val (.int v),l3,l4,l5] st H Q = M31 11 [l0,l1,.val (.int v),l3,l4,l5] (.int v::st) H Q:=w_x (show decode kb31 10 = .ok (.iload_n 2,1) from by decide +kernel) rfl
theorem m31_11 : M31 11 [l0,l1,l2,.val (.int v),l4,l5] st H Q = M31 12 [l0,l1,l2,.val (.int v),l4,l5] (.int v::st) H Q:=w_x (show decode kb31 11 = .ok (.iload_n 3,1) from by decide +kernel) rfl
theorem m31_12 : M31 12 ls (.int y::.int x::st) H Q = if x = y then M31 17 ls st H Q else M31 15 ls st H Q:=w_icmp (show decode kb31 12 = .ok (.if_icmp .eq 5,3) from by decide +kernel) (i_eq x y) rfl
theorem m31_15 : M31 15 ls st H Q = M31 16 ls (.int 0::st) H Q:=w_con (show decode kb31 15 = .ok (.iconst 0,1) from by decide +kernel) rfl (by decide)
theorem m31_16 : M31 16 ls (.int z::st) H Q = Q (some (.int (nar .boolean z))) H:=w_iretN (show decode kb31 16 = .ok (.ireturn,1) from by decide +kernel) rfl (by simp)
theorem m31_17 : M31 17 [.val (.ref r),l1,l2,l3,l4,l5] st H Q = M31 18 [.val (.ref r),l1,l2,l3,l4,l5] (.ref r::st) H Q:=w_x (show decode kb31 17 = .ok (.aload_n 0,1) from by decide +kernel) rfl
theorem cr31_47 : vR tables_1 dn y31 47 = some (false,y17,prog_1_method_7_code,1,(some .int),0,17):=vR_of (cR_of (by decide +kernel) rc_17 dn_17 dn_31 (sig:=⟨[],some .int⟩) (by decide +kernel) (by decide +kernel) rfl rfl) (by decide +kernel) (by decide +kernel) (by decide +kernel)
theorem m31_18 : M31 18 ls [.ref (b + 1)] (put (b + 1) pre s A post) Q = M17 0 [.val (.ref (b + 1))] [] (put (b + 1) pre s A post) (fun v H1 => M31 21 ls (v.toList ++ []) H1 Q):=w_virt (as:=[]) (rest:=[]) (a:=(b + 1)) (show decode kb31 18 = .ok (.invokevirtual 47,3) from by decide +kernel) cr31_47 put_o rfl rfl (Nat.le_of_ble_eq_true rfl) (by show 1≤1; omega) rfl
theorem m31_21i : M31 21 [l0,l1,.val (.int z),l3,l4,l5] ((.int v)::st) H Q = M31 22 [l0,l1,.val (.int v),l3,l4,l5] st H Q:=w_st (i:=2) (p:=isI) (show decode kb31 21 = .ok (.istore_n 2,1) from by decide +kernel) rfl rfl rfl rfl rfl rfl
theorem m31_22 : M31 22 [l0,.val (.ref r),l2,l3,l4,l5] st H Q = M31 23 [l0,.val (.ref r),l2,l3,l4,l5] (.ref r::st) H Q:=w_x (show decode kb31 22 = .ok (.aload_n 1,1) from by decide +kernel) rfl
theorem m31_23 : M31 23 ls [.ref (b + 1)] (put (b + 1) pre s A post) Q = M17 0 [.val (.ref (b + 1))] [] (put (b + 1) pre s A post) (fun v H1 => M31 26 ls (v.toList ++ []) H1 Q):=w_virt (as:=[]) (rest:=[]) (a:=(b + 1)) (show decode kb31 23 = .ok (.invokevirtual 47,3) from by decide +kernel) cr31_47 put_o rfl rfl (Nat.le_of_ble_eq_true rfl) (by show 1≤1; omega) rfl
theorem m31_26i : M31 26 [l0,l1,l2,.val (.int z),l4,l5] ((.int v)::st) H Q = M31 27 [l0,l1,l2,.val (.int v),l4,l5] st H Q:=w_st (i:=3) (p:=isI) (show decode kb31 26 = .ok (.istore_n 3,1) from by decide +kernel) rfl rfl rfl rfl rfl rfl
theorem m31_27 : M31 27 [l0,l1,.val (.int v),l3,l4,l5] st H Q = M31 28 [l0,l1,.val (.int v),l3,l4,l5] (.int v::st) H Q:=w_x (show decode kb31 27 = .ok (.iload_n 2,1) from by decide +kernel) rfl
theorem m31_28 : M31 28 [l0,l1,l2,.val (.int v),l4,l5] st H Q = M31 29 [l0,l1,l2,.val (.int v),l4,l5] (.int v::st) H Q:=w_x (show decode kb31 28 = .ok (.iload_n 3,1) from by decide +kernel) rfl
theorem m31_29 : M31 29 ls (.int y::.int x::st) H Q = if x = y then M31 34 ls st H Q else M31 32 ls st H Q:=w_icmp (show decode kb31 29 = .ok (.if_icmp .eq 5,3) from by decide +kernel) (i_eq x y) rfl
theorem m31_32 : M31 32 ls st H Q = M31 33 ls (.int 0::st) H Q:=w_con (show decode kb31 32 = .ok (.iconst 0,1) from by decide +kernel) rfl (by decide)
theorem m31_33 : M31 33 ls (.int z::st) H Q = Q (some (.int (nar .boolean z))) H:=w_iretN (show decode kb31 33 = .ok (.ireturn,1) from by decide +kernel) rfl (by simp)
theorem m31_34 : M31 34 [.val (.ref r),l1,l2,l3,l4,l5] st H Q = M31 35 [.val (.ref r),l1,l2,l3,l4,l5] (.ref r::st) H Q:=w_x (show decode kb31 34 = .ok (.aload_n 0,1) from by decide +kernel) rfl
theorem cr31_50 : vR tables_1 dn y31 50 = some (false,y18,prog_1_method_6_code,1,(some .int),0,17):=vR_of (cR_of (by decide +kernel) rc_18 dn_18 dn_31 (sig:=⟨[],some .int⟩) (by decide +kernel) (by decide +kernel) rfl rfl) (by decide +kernel) (by decide +kernel) (by decide +kernel)
theorem m31_35 : M31 35 ls [.ref (b + 1)] (put (b + 1) pre s A post) Q = M18 0 [.val (.ref (b + 1))] [] (put (b + 1) pre s A post) (fun v H1 => M31 38 ls (v.toList ++ []) H1 Q):=w_virt (as:=[]) (rest:=[]) (a:=(b + 1)) (show decode kb31 35 = .ok (.invokevirtual 50,3) from by decide +kernel) cr31_50 put_o rfl rfl (Nat.le_of_ble_eq_true rfl) (by show 1≤1; omega) rfl
theorem m31_38i : M31 38 [l0,l1,.val (.int z),l3,l4,l5] ((.int v)::st) H Q = M31 39 [l0,l1,.val (.int v),l3,l4,l5] st H Q:=w_st (i:=2) (p:=isI) (show decode kb31 38 = .ok (.istore_n 2,1) from by decide +kernel) rfl rfl rfl rfl rfl rfl
theorem m31_39 : M31 39 [l0,.val (.ref r),l2,l3,l4,l5] st H Q = M31 40 [l0,.val (.ref r),l2,l3,l4,l5] (.ref r::st) H Q:=w_x (show decode kb31 39 = .ok (.aload_n 1,1) from by decide +kernel) rfl
theorem m31_40 : M31 40 ls [.ref (b + 1)] (put (b + 1) pre s A post) Q = M18 0 [.val (.ref (b + 1))] [] (put (b + 1) pre s A post) (fun v H1 => M31 43 ls (v.toList ++ []) H1 Q):=w_virt (as:=[]) (rest:=[]) (a:=(b + 1)) (show decode kb31 40 = .ok (.invokevirtual 50,3) from by decide +kernel) cr31_50 put_o rfl rfl (Nat.le_of_ble_eq_true rfl) (by show 1≤1; omega) rfl
theorem m31_43i : M31 43 [l0,l1,l2,.val (.int z),l4,l5] ((.int v)::st) H Q = M31 44 [l0,l1,l2,.val (.int v),l4,l5] st H Q:=w_st (i:=3) (p:=isI) (show decode kb31 43 = .ok (.istore_n 3,1) from by decide +kernel) rfl rfl rfl rfl rfl rfl
theorem m31_44 : M31 44 [l0,l1,.val (.int v),l3,l4,l5] st H Q = M31 45 [l0,l1,.val (.int v),l3,l4,l5] (.int v::st) H Q:=w_x (show decode kb31 44 = .ok (.iload_n 2,1) from by decide +kernel) rfl
theorem m31_45 : M31 45 [l0,l1,l2,.val (.int v),l4,l5] st H Q = M31 46 [l0,l1,l2,.val (.int v),l4,l5] (.int v::st) H Q:=w_x (show decode kb31 45 = .ok (.iload_n 3,1) from by decide +kernel) rfl
theorem m31_46 : M31 46 ls (.int y::.int x::st) H Q = if x = y then M31 51 ls st H Q else M31 49 ls st H Q:=w_icmp (show decode kb31 46 = .ok (.if_icmp .eq 5,3) from by decide +kernel) (i_eq x y) rfl
theorem m31_49 : M31 49 ls st H Q = M31 50 ls (.int 0::st) H Q:=w_con (show decode kb31 49 = .ok (.iconst 0,1) from by decide +kernel) rfl (by decide)
theorem m31_50 : M31 50 ls (.int z::st) H Q = Q (some (.int (nar .boolean z))) H:=w_iretN (show decode kb31 50 = .ok (.ireturn,1) from by decide +kernel) rfl (by simp)
theorem m31_51 : M31 51 [.val (.ref r),l1,l2,l3,l4,l5] st H Q = M31 52 [.val (.ref r),l1,l2,l3,l4,l5] (.ref r::st) H Q:=w_x (show decode kb31 51 = .ok (.aload_n 0,1) from by decide +kernel) rfl
theorem cr31_53 : vR tables_1 dn y31 53 = some (false,y19,prog_1_method_8_code,1,(some .int),0,17):=vR_of (cR_of (by decide +kernel) rc_19 dn_19 dn_31 (sig:=⟨[],some .int⟩) (by decide +kernel) (by decide +kernel) rfl rfl) (by decide +kernel) (by decide +kernel) (by decide +kernel)
theorem m31_52 : M31 52 ls [.ref (b + 1)] (put (b + 1) pre s A post) Q = M19 0 [.val (.ref (b + 1))] [] (put (b + 1) pre s A post) (fun v H1 => M31 55 ls (v.toList ++ []) H1 Q):=w_virt (as:=[]) (rest:=[]) (a:=(b + 1)) (show decode kb31 52 = .ok (.invokevirtual 53,3) from by decide +kernel) cr31_53 put_o rfl rfl (Nat.le_of_ble_eq_true rfl) (by show 1≤1; omega) rfl
theorem m31_55i : M31 55 [l0,l1,.val (.int z),l3,l4,l5] ((.int v)::st) H Q = M31 56 [l0,l1,.val (.int v),l3,l4,l5] st H Q:=w_st (i:=2) (p:=isI) (show decode kb31 55 = .ok (.istore_n 2,1) from by decide +kernel) rfl rfl rfl rfl rfl rfl
theorem m31_56 : M31 56 [l0,.val (.ref r),l2,l3,l4,l5] st H Q = M31 57 [l0,.val (.ref r),l2,l3,l4,l5] (.ref r::st) H Q:=w_x (show decode kb31 56 = .ok (.aload_n 1,1) from by decide +kernel) rfl
theorem m31_57 : M31 57 ls [.ref (b + 1)] (put (b + 1) pre s A post) Q = M19 0 [.val (.ref (b + 1))] [] (put (b + 1) pre s A post) (fun v H1 => M31 60 ls (v.toList ++ []) H1 Q):=w_virt (as:=[]) (rest:=[]) (a:=(b + 1)) (show decode kb31 57 = .ok (.invokevirtual 53,3) from by decide +kernel) cr31_53 put_o rfl rfl (Nat.le_of_ble_eq_true rfl) (by show 1≤1; omega) rfl
theorem m31_60i : M31 60 [l0,l1,l2,.val (.int z),l4,l5] ((.int v)::st) H Q = M31 61 [l0,l1,l2,.val (.int v),l4,l5] st H Q:=w_st (i:=3) (p:=isI) (show decode kb31 60 = .ok (.istore_n 3,1) from by decide +kernel) rfl rfl rfl rfl rfl rfl
theorem m31_61 : M31 61 [l0,l1,.val (.int v),l3,l4,l5] st H Q = M31 62 [l0,l1,.val (.int v),l3,l4,l5] (.int v::st) H Q:=w_x (show decode kb31 61 = .ok (.iload_n 2,1) from by decide +kernel) rfl
theorem m31_62 : M31 62 [l0,l1,l2,.val (.int v),l4,l5] st H Q = M31 63 [l0,l1,l2,.val (.int v),l4,l5] (.int v::st) H Q:=w_x (show decode kb31 62 = .ok (.iload_n 3,1) from by decide +kernel) rfl
theorem m31_63 : M31 63 ls (.int y::.int x::st) H Q = if x = y then M31 68 ls st H Q else M31 66 ls st H Q:=w_icmp (show decode kb31 63 = .ok (.if_icmp .eq 5,3) from by decide +kernel) (i_eq x y) rfl
theorem m31_66 : M31 66 ls st H Q = M31 67 ls (.int 0::st) H Q:=w_con (show decode kb31 66 = .ok (.iconst 0,1) from by decide +kernel) rfl (by decide)
theorem m31_67 : M31 67 ls (.int z::st) H Q = Q (some (.int (nar .boolean z))) H:=w_iretN (show decode kb31 67 = .ok (.ireturn,1) from by decide +kernel) rfl (by simp)
theorem m31_68 : M31 68 ls st H Q = M31 69 ls (.int 0::st) H Q:=w_con (show decode kb31 68 = .ok (.iconst 0,1) from by decide +kernel) rfl (by decide)
theorem m31_69u : M31 69 [l0,l1,l2,l3,.unset,l5] ((.int v)::st) H Q = M31 71 [l0,l1,l2,l3,.val (.int v),l5] st H Q:=w_st (i:=4) (p:=isI) (show decode kb31 69 = .ok (.istore 4,2) from by decide +kernel) rfl rfl rfl rfl rfl rfl
theorem m31_71 : M31 71 [l0,l1,l2,l3,.val (.int v),l5] st H Q = M31 73 [l0,l1,l2,l3,.val (.int v),l5] (.int v::st) H Q:=w_x (show decode kb31 71 = .ok (.iload 4,2) from by decide +kernel) rfl
theorem m31_73 : M31 73 ls st H Q = M31 75 ls (.int 32::st) H Q:=w_con (show decode kb31 73 = .ok (.bipush 32,2) from by decide +kernel) rfl (by decide)
theorem m31_75 : M31 75 ls (.int y::.int x::st) H Q = if x < y then M31 78 ls st H Q else M31 105 ls st H Q:=w_icmpN (show decode kb31 75 = .ok (.if_icmp .ge 30,3) from by decide +kernel) (i_ge x y) rfl
theorem m31_78 : M31 78 [.val (.ref r),l1,l2,l3,l4,l5] st H Q = M31 79 [.val (.ref r),l1,l2,l3,l4,l5] (.ref r::st) H Q:=w_x (show decode kb31 78 = .ok (.aload_n 0,1) from by decide +kernel) rfl
theorem m31_79 : M31 79 [l0,l1,l2,l3,.val (.int v),l5] st H Q = M31 81 [l0,l1,l2,l3,.val (.int v),l5] (.int v::st) H Q:=w_x (show decode kb31 79 = .ok (.iload 4,2) from by decide +kernel) rfl
theorem cr31_56 : vR tables_1 dn y31 56 = some (false,y20,prog_1_method_11_code,2,(some .int),1,16):=vR_of (cR_of (by decide +kernel) rc_20 dn_20 dn_31 (sig:=⟨[.int],some .int⟩) (by decide +kernel) (by decide +kernel) rfl rfl) (by decide +kernel) (by decide +kernel) (by decide +kernel)
theorem m31_81 (a0 : Int32) : M31 81 ls [.int a0,.ref (b + 1)] (put (b + 1) pre s A post) Q = M20 0 [.val (.ref (b + 1)),.val (.int a0)] [] (put (b + 1) pre s A post) (fun v H1 => M31 84 ls (v.toList ++ []) H1 Q):=w_virt (as:=[.int a0]) (rest:=[]) (a:=(b + 1)) (show decode kb31 81 = .ok (.invokevirtual 56,3) from by decide +kernel) cr31_56 put_o rfl rfl (Nat.le_of_ble_eq_true rfl) (by show 2≤2; omega) rfl
theorem m31_84i : M31 84 [l0,l1,.val (.int z),l3,l4,l5] ((.int v)::st) H Q = M31 85 [l0,l1,.val (.int v),l3,l4,l5] st H Q:=w_st (i:=2) (p:=isI) (show decode kb31 84 = .ok (.istore_n 2,1) from by decide +kernel) rfl rfl rfl rfl rfl rfl
theorem m31_85 : M31 85 [l0,.val (.ref r),l2,l3,l4,l5] st H Q = M31 86 [l0,.val (.ref r),l2,l3,l4,l5] (.ref r::st) H Q:=w_x (show decode kb31 85 = .ok (.aload_n 1,1) from by decide +kernel) rfl
theorem m31_86 : M31 86 [l0,l1,l2,l3,.val (.int v),l5] st H Q = M31 88 [l0,l1,l2,l3,.val (.int v),l5] (.int v::st) H Q:=w_x (show decode kb31 86 = .ok (.iload 4,2) from by decide +kernel) rfl
theorem m31_88 (a0 : Int32) : M31 88 ls [.int a0,.ref (b + 1)] (put (b + 1) pre s A post) Q = M20 0 [.val (.ref (b + 1)),.val (.int a0)] [] (put (b + 1) pre s A post) (fun v H1 => M31 91 ls (v.toList ++ []) H1 Q):=w_virt (as:=[.int a0]) (rest:=[]) (a:=(b + 1)) (show decode kb31 88 = .ok (.invokevirtual 56,3) from by decide +kernel) cr31_56 put_o rfl rfl (Nat.le_of_ble_eq_true rfl) (by show 2≤2; omega) rfl
theorem m31_91i : M31 91 [l0,l1,l2,.val (.int z),l4,l5] ((.int v)::st) H Q = M31 92 [l0,l1,l2,.val (.int v),l4,l5] st H Q:=w_st (i:=3) (p:=isI) (show decode kb31 91 = .ok (.istore_n 3,1) from by decide +kernel) rfl rfl rfl rfl rfl rfl
theorem m31_92 : M31 92 [l0,l1,.val (.int v),l3,l4,l5] st H Q = M31 93 [l0,l1,.val (.int v),l3,l4,l5] (.int v::st) H Q:=w_x (show decode kb31 92 = .ok (.iload_n 2,1) from by decide +kernel) rfl
theorem m31_93 : M31 93 [l0,l1,l2,.val (.int v),l4,l5] st H Q = M31 94 [l0,l1,l2,.val (.int v),l4,l5] (.int v::st) H Q:=w_x (show decode kb31 93 = .ok (.iload_n 3,1) from by decide +kernel) rfl
theorem m31_94 : M31 94 ls (.int y::.int x::st) H Q = if x = y then M31 99 ls st H Q else M31 97 ls st H Q:=w_icmp (show decode kb31 94 = .ok (.if_icmp .eq 5,3) from by decide +kernel) (i_eq x y) rfl
theorem m31_97 : M31 97 ls st H Q = M31 98 ls (.int 0::st) H Q:=w_con (show decode kb31 97 = .ok (.iconst 0,1) from by decide +kernel) rfl (by decide)
theorem m31_98 : M31 98 ls (.int z::st) H Q = Q (some (.int (nar .boolean z))) H:=w_iretN (show decode kb31 98 = .ok (.ireturn,1) from by decide +kernel) rfl (by simp)
theorem m31_99 : M31 99 [l0,l1,l2,l3,.val (.int v),l5] st H Q = M31 102 [l0,l1,l2,l3,.val (.int (v + 1)),l5] st H Q:=w_iinc (show decode kb31 99 = .ok (.iinc 4 1,3) from by decide +kernel) rfl (by decide) rfl
theorem m31_102 : M31 102 ls st H Q = M31 71 ls st H Q:=w_x (show decode kb31 102 = .ok (.goto (-31),3) from by decide +kernel) rfl
theorem m31_105 : M31 105 ls st H Q = M31 106 ls (.int 0::st) H Q:=w_con (show decode kb31 105 = .ok (.iconst 0,1) from by decide +kernel) rfl (by decide)
theorem m31_106i : M31 106 [l0,l1,l2,l3,.val (.int z),l5] ((.int v)::st) H Q = M31 108 [l0,l1,l2,l3,.val (.int v),l5] st H Q:=w_st (i:=4) (p:=isI) (show decode kb31 106 = .ok (.istore 4,2) from by decide +kernel) rfl rfl rfl rfl rfl rfl
theorem m31_108 : M31 108 [l0,l1,l2,l3,.val (.int v),l5] st H Q = M31 110 [l0,l1,l2,l3,.val (.int v),l5] (.int v::st) H Q:=w_x (show decode kb31 108 = .ok (.iload 4,2) from by decide +kernel) rfl
theorem m31_110 : M31 110 ls st H Q = M31 112 ls (.int 64::st) H Q:=w_con (show decode kb31 110 = .ok (.bipush 64,2) from by decide +kernel) rfl (by decide)
theorem m31_112 : M31 112 ls (.int y::.int x::st) H Q = if x < y then M31 115 ls st H Q else M31 142 ls st H Q:=w_icmpN (show decode kb31 112 = .ok (.if_icmp .ge 30,3) from by decide +kernel) (i_ge x y) rfl
theorem m31_115 : M31 115 [.val (.ref r),l1,l2,l3,l4,l5] st H Q = M31 116 [.val (.ref r),l1,l2,l3,l4,l5] (.ref r::st) H Q:=w_x (show decode kb31 115 = .ok (.aload_n 0,1) from by decide +kernel) rfl
theorem m31_116 : M31 116 [l0,l1,l2,l3,.val (.int v),l5] st H Q = M31 118 [l0,l1,l2,l3,.val (.int v),l5] (.int v::st) H Q:=w_x (show decode kb31 116 = .ok (.iload 4,2) from by decide +kernel) rfl
theorem cr31_60 : vR tables_1 dn y31 60 = some (false,y21,prog_1_method_12_code,2,(some .int),1,16):=vR_of (cR_of (by decide +kernel) rc_21 dn_21 dn_31 (sig:=⟨[.int],some .int⟩) (by decide +kernel) (by decide +kernel) rfl rfl) (by decide +kernel) (by decide +kernel) (by decide +kernel)
theorem m31_118 (a0 : Int32) : M31 118 ls [.int a0,.ref (b + 1)] (put (b + 1) pre s A post) Q = M21 0 [.val (.ref (b + 1)),.val (.int a0)] [] (put (b + 1) pre s A post) (fun v H1 => M31 121 ls (v.toList ++ []) H1 Q):=w_virt (as:=[.int a0]) (rest:=[]) (a:=(b + 1)) (show decode kb31 118 = .ok (.invokevirtual 60,3) from by decide +kernel) cr31_60 put_o rfl rfl (Nat.le_of_ble_eq_true rfl) (by show 2≤2; omega) rfl
theorem m31_121i : M31 121 [l0,l1,.val (.int z),l3,l4,l5] ((.int v)::st) H Q = M31 122 [l0,l1,.val (.int v),l3,l4,l5] st H Q:=w_st (i:=2) (p:=isI) (show decode kb31 121 = .ok (.istore_n 2,1) from by decide +kernel) rfl rfl rfl rfl rfl rfl
theorem m31_122 : M31 122 [l0,.val (.ref r),l2,l3,l4,l5] st H Q = M31 123 [l0,.val (.ref r),l2,l3,l4,l5] (.ref r::st) H Q:=w_x (show decode kb31 122 = .ok (.aload_n 1,1) from by decide +kernel) rfl
theorem m31_123 : M31 123 [l0,l1,l2,l3,.val (.int v),l5] st H Q = M31 125 [l0,l1,l2,l3,.val (.int v),l5] (.int v::st) H Q:=w_x (show decode kb31 123 = .ok (.iload 4,2) from by decide +kernel) rfl
theorem m31_125 (a0 : Int32) : M31 125 ls [.int a0,.ref (b + 1)] (put (b + 1) pre s A post) Q = M21 0 [.val (.ref (b + 1)),.val (.int a0)] [] (put (b + 1) pre s A post) (fun v H1 => M31 128 ls (v.toList ++ []) H1 Q):=w_virt (as:=[.int a0]) (rest:=[]) (a:=(b + 1)) (show decode kb31 125 = .ok (.invokevirtual 60,3) from by decide +kernel) cr31_60 put_o rfl rfl (Nat.le_of_ble_eq_true rfl) (by show 2≤2; omega) rfl
theorem m31_128i : M31 128 [l0,l1,l2,.val (.int z),l4,l5] ((.int v)::st) H Q = M31 129 [l0,l1,l2,.val (.int v),l4,l5] st H Q:=w_st (i:=3) (p:=isI) (show decode kb31 128 = .ok (.istore_n 3,1) from by decide +kernel) rfl rfl rfl rfl rfl rfl
theorem m31_129 : M31 129 [l0,l1,.val (.int v),l3,l4,l5] st H Q = M31 130 [l0,l1,.val (.int v),l3,l4,l5] (.int v::st) H Q:=w_x (show decode kb31 129 = .ok (.iload_n 2,1) from by decide +kernel) rfl
theorem m31_130 : M31 130 [l0,l1,l2,.val (.int v),l4,l5] st H Q = M31 131 [l0,l1,l2,.val (.int v),l4,l5] (.int v::st) H Q:=w_x (show decode kb31 130 = .ok (.iload_n 3,1) from by decide +kernel) rfl
theorem m31_131 : M31 131 ls (.int y::.int x::st) H Q = if x = y then M31 136 ls st H Q else M31 134 ls st H Q:=w_icmp (show decode kb31 131 = .ok (.if_icmp .eq 5,3) from by decide +kernel) (i_eq x y) rfl
theorem m31_134 : M31 134 ls st H Q = M31 135 ls (.int 0::st) H Q:=w_con (show decode kb31 134 = .ok (.iconst 0,1) from by decide +kernel) rfl (by decide)
theorem m31_135 : M31 135 ls (.int z::st) H Q = Q (some (.int (nar .boolean z))) H:=w_iretN (show decode kb31 135 = .ok (.ireturn,1) from by decide +kernel) rfl (by simp)
theorem m31_136 : M31 136 [l0,l1,l2,l3,.val (.int v),l5] st H Q = M31 139 [l0,l1,l2,l3,.val (.int (v + 1)),l5] st H Q:=w_iinc (show decode kb31 136 = .ok (.iinc 4 1,3) from by decide +kernel) rfl (by decide) rfl
theorem m31_139 : M31 139 ls st H Q = M31 108 ls st H Q:=w_x (show decode kb31 139 = .ok (.goto (-31),3) from by decide +kernel) rfl
theorem m31_142 : M31 142 ls st H Q = M31 143 ls (.int 0::st) H Q:=w_con (show decode kb31 142 = .ok (.iconst 0,1) from by decide +kernel) rfl (by decide)
theorem m31_143i : M31 143 [l0,l1,l2,l3,.val (.int z),l5] ((.int v)::st) H Q = M31 145 [l0,l1,l2,l3,.val (.int v),l5] st H Q:=w_st (i:=4) (p:=isI) (show decode kb31 143 = .ok (.istore 4,2) from by decide +kernel) rfl rfl rfl rfl rfl rfl
theorem m31_145 : M31 145 [l0,l1,l2,l3,.val (.int v),l5] st H Q = M31 147 [l0,l1,l2,l3,.val (.int v),l5] (.int v::st) H Q:=w_x (show decode kb31 145 = .ok (.iload 4,2) from by decide +kernel) rfl
theorem m31_147 : M31 147 ls st H Q = M31 149 ls (.int 8::st) H Q:=w_con (show decode kb31 147 = .ok (.bipush 8,2) from by decide +kernel) rfl (by decide)
theorem m31_149 : M31 149 ls (.int y::.int x::st) H Q = if x < y then M31 152 ls st H Q else M31 224 ls st H Q:=w_icmpN (show decode kb31 149 = .ok (.if_icmp .ge 75,3) from by decide +kernel) (i_ge x y) rfl
theorem m31_152 : M31 152 ls st H Q = M31 153 ls (.int 0::st) H Q:=w_con (show decode kb31 152 = .ok (.iconst 0,1) from by decide +kernel) rfl (by decide)
theorem m31_153u : M31 153 [l0,l1,l2,l3,l4,.unset] ((.int v)::st) H Q = M31 155 [l0,l1,l2,l3,l4,.val (.int v)] st H Q:=w_st (i:=5) (p:=isI) (show decode kb31 153 = .ok (.istore 5,2) from by decide +kernel) rfl rfl rfl rfl rfl rfl
theorem m31_153i : M31 153 [l0,l1,l2,l3,l4,.val (.int z)] ((.int v)::st) H Q = M31 155 [l0,l1,l2,l3,l4,.val (.int v)] st H Q:=w_st (i:=5) (p:=isI) (show decode kb31 153 = .ok (.istore 5,2) from by decide +kernel) rfl rfl rfl rfl rfl rfl
theorem m31_153r : M31 153 [l0,l1,l2,l3,l4,.val (.ref q)] ((.int v)::st) H Q = M31 155 [l0,l1,l2,l3,l4,.val (.int v)] st H Q:=w_st (i:=5) (p:=isI) (show decode kb31 153 = .ok (.istore 5,2) from by decide +kernel) rfl rfl rfl rfl rfl rfl
theorem m31_153g (h : okS l5) : M31 153 [l0,l1,l2,l3,l4,l5] ((.int v)::st) H Q = M31 155 [l0,l1,l2,l3,l4,.val (.int v)] st H Q:=by rcases h with rfl | ⟨z,rfl⟩ <;> first | exact m31_153u | exact m31_153i
theorem m31_155 : M31 155 [l0,l1,l2,l3,l4,.val (.int v)] st H Q = M31 157 [l0,l1,l2,l3,l4,.val (.int v)] (.int v::st) H Q:=w_x (show decode kb31 155 = .ok (.iload 5,2) from by decide +kernel) rfl
theorem m31_157 : M31 157 ls st H Q = M31 159 ls (.int 8::st) H Q:=w_con (show decode kb31 157 = .ok (.bipush 8,2) from by decide +kernel) rfl (by decide)
theorem m31_159 : M31 159 ls (.int y::.int x::st) H Q = if x < y then M31 162 ls st H Q else M31 218 ls st H Q:=w_icmpN (show decode kb31 159 = .ok (.if_icmp .ge 59,3) from by decide +kernel) (i_ge x y) rfl
theorem m31_162 : M31 162 [.val (.ref r),l1,l2,l3,l4,l5] st H Q = M31 163 [.val (.ref r),l1,l2,l3,l4,l5] (.ref r::st) H Q:=w_x (show decode kb31 162 = .ok (.aload_n 0,1) from by decide +kernel) rfl
theorem m31_163 : M31 163 [l0,l1,l2,l3,.val (.int v),l5] st H Q = M31 165 [l0,l1,l2,l3,.val (.int v),l5] (.int v::st) H Q:=w_x (show decode kb31 163 = .ok (.iload 4,2) from by decide +kernel) rfl
theorem m31_165 : M31 165 [l0,l1,l2,l3,l4,.val (.int v)] st H Q = M31 167 [l0,l1,l2,l3,l4,.val (.int v)] (.int v::st) H Q:=w_x (show decode kb31 165 = .ok (.iload 5,2) from by decide +kernel) rfl
theorem cr31_63 : vR tables_1 dn y31 63 = some (false,y22,prog_1_method_9_code,4,(some .int),2,0):=vR_of (cR_of (by decide +kernel) rc_22 dn_22 dn_31 (sig:=⟨[.int,.int],some .int⟩) (by decide +kernel) (by decide +kernel) rfl rfl) (by decide +kernel) (by decide +kernel) (by decide +kernel)
theorem m31_167 (a0 : Int32) (a1 : Int32) : M31 167 ls [.int a1,.int a0,.ref (b + 1)] (put (b + 1) pre s A post) Q = M22 0 [.val (.ref (b + 1)),.val (.int a0),.val (.int a1),.unset] [] (put (b + 1) pre s A post) (fun v H1 => M31 170 ls (v.toList ++ []) H1 Q):=w_virt (as:=[.int a1,.int a0]) (rest:=[]) (a:=(b + 1)) (show decode kb31 167 = .ok (.invokevirtual 63,3) from by decide +kernel) cr31_63 put_o rfl rfl (Nat.le_of_ble_eq_true rfl) (by show 3≤4; omega) rfl
theorem m31_170i : M31 170 [l0,l1,.val (.int z),l3,l4,l5] ((.int v)::st) H Q = M31 171 [l0,l1,.val (.int v),l3,l4,l5] st H Q:=w_st (i:=2) (p:=isI) (show decode kb31 170 = .ok (.istore_n 2,1) from by decide +kernel) rfl rfl rfl rfl rfl rfl
theorem m31_171 : M31 171 [l0,.val (.ref r),l2,l3,l4,l5] st H Q = M31 172 [l0,.val (.ref r),l2,l3,l4,l5] (.ref r::st) H Q:=w_x (show decode kb31 171 = .ok (.aload_n 1,1) from by decide +kernel) rfl
theorem m31_172 : M31 172 [l0,l1,l2,l3,.val (.int v),l5] st H Q = M31 174 [l0,l1,l2,l3,.val (.int v),l5] (.int v::st) H Q:=w_x (show decode kb31 172 = .ok (.iload 4,2) from by decide +kernel) rfl
theorem m31_174 : M31 174 [l0,l1,l2,l3,l4,.val (.int v)] st H Q = M31 176 [l0,l1,l2,l3,l4,.val (.int v)] (.int v::st) H Q:=w_x (show decode kb31 174 = .ok (.iload 5,2) from by decide +kernel) rfl
theorem m31_176 (a0 : Int32) (a1 : Int32) : M31 176 ls [.int a1,.int a0,.ref (b + 1)] (put (b + 1) pre s A post) Q = M22 0 [.val (.ref (b + 1)),.val (.int a0),.val (.int a1),.unset] [] (put (b + 1) pre s A post) (fun v H1 => M31 179 ls (v.toList ++ []) H1 Q):=w_virt (as:=[.int a1,.int a0]) (rest:=[]) (a:=(b + 1)) (show decode kb31 176 = .ok (.invokevirtual 63,3) from by decide +kernel) cr31_63 put_o rfl rfl (Nat.le_of_ble_eq_true rfl) (by show 3≤4; omega) rfl
theorem m31_179i : M31 179 [l0,l1,l2,.val (.int z),l4,l5] ((.int v)::st) H Q = M31 180 [l0,l1,l2,.val (.int v),l4,l5] st H Q:=w_st (i:=3) (p:=isI) (show decode kb31 179 = .ok (.istore_n 3,1) from by decide +kernel) rfl rfl rfl rfl rfl rfl
theorem m31_180 : M31 180 [l0,l1,.val (.int v),l3,l4,l5] st H Q = M31 181 [l0,l1,.val (.int v),l3,l4,l5] (.int v::st) H Q:=w_x (show decode kb31 180 = .ok (.iload_n 2,1) from by decide +kernel) rfl
theorem m31_181 : M31 181 [l0,l1,l2,.val (.int v),l4,l5] st H Q = M31 182 [l0,l1,l2,.val (.int v),l4,l5] (.int v::st) H Q:=w_x (show decode kb31 181 = .ok (.iload_n 3,1) from by decide +kernel) rfl
theorem m31_182 : M31 182 ls (.int y::.int x::st) H Q = if x = y then M31 187 ls st H Q else M31 185 ls st H Q:=w_icmp (show decode kb31 182 = .ok (.if_icmp .eq 5,3) from by decide +kernel) (i_eq x y) rfl
theorem m31_185 : M31 185 ls st H Q = M31 186 ls (.int 0::st) H Q:=w_con (show decode kb31 185 = .ok (.iconst 0,1) from by decide +kernel) rfl (by decide)
theorem m31_186 : M31 186 ls (.int z::st) H Q = Q (some (.int (nar .boolean z))) H:=w_iretN (show decode kb31 186 = .ok (.ireturn,1) from by decide +kernel) rfl (by simp)
theorem m31_187 : M31 187 [.val (.ref r),l1,l2,l3,l4,l5] st H Q = M31 188 [.val (.ref r),l1,l2,l3,l4,l5] (.ref r::st) H Q:=w_x (show decode kb31 187 = .ok (.aload_n 0,1) from by decide +kernel) rfl
theorem m31_188 : M31 188 [l0,l1,l2,l3,.val (.int v),l5] st H Q = M31 190 [l0,l1,l2,l3,.val (.int v),l5] (.int v::st) H Q:=w_x (show decode kb31 188 = .ok (.iload 4,2) from by decide +kernel) rfl
theorem m31_190 : M31 190 [l0,l1,l2,l3,l4,.val (.int v)] st H Q = M31 192 [l0,l1,l2,l3,l4,.val (.int v)] (.int v::st) H Q:=w_x (show decode kb31 190 = .ok (.iload 5,2) from by decide +kernel) rfl
theorem cr31_67 : vR tables_1 dn y31 67 = some (false,y24,prog_1_method_10_code,4,(some .int),2,0):=vR_of (cR_of (by decide +kernel) rc_24 dn_24 dn_31 (sig:=⟨[.int,.int],some .int⟩) (by decide +kernel) (by decide +kernel) rfl rfl) (by decide +kernel) (by decide +kernel) (by decide +kernel)
theorem m31_192 (a0 : Int32) (a1 : Int32) : M31 192 ls [.int a1,.int a0,.ref (b + 1)] (put (b + 1) pre s A post) Q = M24 0 [.val (.ref (b + 1)),.val (.int a0),.val (.int a1),.unset] [] (put (b + 1) pre s A post) (fun v H1 => M31 195 ls (v.toList ++ []) H1 Q):=w_virt (as:=[.int a1,.int a0]) (rest:=[]) (a:=(b + 1)) (show decode kb31 192 = .ok (.invokevirtual 67,3) from by decide +kernel) cr31_67 put_o rfl rfl (Nat.le_of_ble_eq_true rfl) (by show 3≤4; omega) rfl
theorem m31_195i : M31 195 [l0,l1,.val (.int z),l3,l4,l5] ((.int v)::st) H Q = M31 196 [l0,l1,.val (.int v),l3,l4,l5] st H Q:=w_st (i:=2) (p:=isI) (show decode kb31 195 = .ok (.istore_n 2,1) from by decide +kernel) rfl rfl rfl rfl rfl rfl
theorem m31_196 : M31 196 [l0,.val (.ref r),l2,l3,l4,l5] st H Q = M31 197 [l0,.val (.ref r),l2,l3,l4,l5] (.ref r::st) H Q:=w_x (show decode kb31 196 = .ok (.aload_n 1,1) from by decide +kernel) rfl
theorem m31_197 : M31 197 [l0,l1,l2,l3,.val (.int v),l5] st H Q = M31 199 [l0,l1,l2,l3,.val (.int v),l5] (.int v::st) H Q:=w_x (show decode kb31 197 = .ok (.iload 4,2) from by decide +kernel) rfl
theorem m31_199 : M31 199 [l0,l1,l2,l3,l4,.val (.int v)] st H Q = M31 201 [l0,l1,l2,l3,l4,.val (.int v)] (.int v::st) H Q:=w_x (show decode kb31 199 = .ok (.iload 5,2) from by decide +kernel) rfl
theorem m31_201 (a0 : Int32) (a1 : Int32) : M31 201 ls [.int a1,.int a0,.ref (b + 1)] (put (b + 1) pre s A post) Q = M24 0 [.val (.ref (b + 1)),.val (.int a0),.val (.int a1),.unset] [] (put (b + 1) pre s A post) (fun v H1 => M31 204 ls (v.toList ++ []) H1 Q):=w_virt (as:=[.int a1,.int a0]) (rest:=[]) (a:=(b + 1)) (show decode kb31 201 = .ok (.invokevirtual 67,3) from by decide +kernel) cr31_67 put_o rfl rfl (Nat.le_of_ble_eq_true rfl) (by show 3≤4; omega) rfl
theorem m31_204i : M31 204 [l0,l1,l2,.val (.int z),l4,l5] ((.int v)::st) H Q = M31 205 [l0,l1,l2,.val (.int v),l4,l5] st H Q:=w_st (i:=3) (p:=isI) (show decode kb31 204 = .ok (.istore_n 3,1) from by decide +kernel) rfl rfl rfl rfl rfl rfl
theorem m31_205 : M31 205 [l0,l1,.val (.int v),l3,l4,l5] st H Q = M31 206 [l0,l1,.val (.int v),l3,l4,l5] (.int v::st) H Q:=w_x (show decode kb31 205 = .ok (.iload_n 2,1) from by decide +kernel) rfl
theorem m31_206 : M31 206 [l0,l1,l2,.val (.int v),l4,l5] st H Q = M31 207 [l0,l1,l2,.val (.int v),l4,l5] (.int v::st) H Q:=w_x (show decode kb31 206 = .ok (.iload_n 3,1) from by decide +kernel) rfl
theorem m31_207 : M31 207 ls (.int y::.int x::st) H Q = if x = y then M31 212 ls st H Q else M31 210 ls st H Q:=w_icmp (show decode kb31 207 = .ok (.if_icmp .eq 5,3) from by decide +kernel) (i_eq x y) rfl
theorem m31_210 : M31 210 ls st H Q = M31 211 ls (.int 0::st) H Q:=w_con (show decode kb31 210 = .ok (.iconst 0,1) from by decide +kernel) rfl (by decide)
theorem m31_211 : M31 211 ls (.int z::st) H Q = Q (some (.int (nar .boolean z))) H:=w_iretN (show decode kb31 211 = .ok (.ireturn,1) from by decide +kernel) rfl (by simp)
theorem m31_212 : M31 212 [l0,l1,l2,l3,l4,.val (.int v)] st H Q = M31 215 [l0,l1,l2,l3,l4,.val (.int (v + 1))] st H Q:=w_iinc (show decode kb31 212 = .ok (.iinc 5 1,3) from by decide +kernel) rfl (by decide) rfl
theorem m31_215 : M31 215 ls st H Q = M31 155 ls st H Q:=w_x (show decode kb31 215 = .ok (.goto (-60),3) from by decide +kernel) rfl
theorem m31_218 : M31 218 [l0,l1,l2,l3,.val (.int v),l5] st H Q = M31 221 [l0,l1,l2,l3,.val (.int (v + 1)),l5] st H Q:=w_iinc (show decode kb31 218 = .ok (.iinc 4 1,3) from by decide +kernel) rfl (by decide) rfl
theorem m31_221 : M31 221 ls st H Q = M31 145 ls st H Q:=w_x (show decode kb31 221 = .ok (.goto (-76),3) from by decide +kernel) rfl
theorem m31_224 : M31 224 ls st H Q = M31 225 ls (.int 0::st) H Q:=w_con (show decode kb31 224 = .ok (.iconst 0,1) from by decide +kernel) rfl (by decide)
theorem m31_225i : M31 225 [l0,l1,l2,l3,.val (.int z),l5] ((.int v)::st) H Q = M31 227 [l0,l1,l2,l3,.val (.int v),l5] st H Q:=w_st (i:=4) (p:=isI) (show decode kb31 225 = .ok (.istore 4,2) from by decide +kernel) rfl rfl rfl rfl rfl rfl
theorem m31_227 : M31 227 [l0,l1,l2,l3,.val (.int v),l5] st H Q = M31 229 [l0,l1,l2,l3,.val (.int v),l5] (.int v::st) H Q:=w_x (show decode kb31 227 = .ok (.iload 4,2) from by decide +kernel) rfl
theorem m31_229 : M31 229 ls st H Q = M31 231 ls (.int 32::st) H Q:=w_con (show decode kb31 229 = .ok (.bipush 32,2) from by decide +kernel) rfl (by decide)
theorem m31_231 : M31 231 ls (.int y::.int x::st) H Q = if x < y then M31 234 ls st H Q else M31 286 ls st H Q:=w_icmpN (show decode kb31 231 = .ok (.if_icmp .ge 55,3) from by decide +kernel) (i_ge x y) rfl
theorem m31_234 : M31 234 [.val (.ref r),l1,l2,l3,l4,l5] st H Q = M31 235 [.val (.ref r),l1,l2,l3,l4,l5] (.ref r::st) H Q:=w_x (show decode kb31 234 = .ok (.aload_n 0,1) from by decide +kernel) rfl
theorem m31_235 : M31 235 ls st H Q = M31 236 ls (.int 0::st) H Q:=w_con (show decode kb31 235 = .ok (.iconst 0,1) from by decide +kernel) rfl (by decide)
theorem m31_236 : M31 236 [l0,l1,l2,l3,.val (.int v),l5] st H Q = M31 238 [l0,l1,l2,l3,.val (.int v),l5] (.int v::st) H Q:=w_x (show decode kb31 236 = .ok (.iload 4,2) from by decide +kernel) rfl
theorem cr31_70 : vR tables_1 dn y31 70 = some (false,y25,prog_1_method_16_code,3,(some .int),2,15):=vR_of (cR_of (by decide +kernel) rc_25 dn_25 dn_31 (sig:=⟨[.int,.int],some .int⟩) (by decide +kernel) (by decide +kernel) rfl rfl) (by decide +kernel) (by decide +kernel) (by decide +kernel)
theorem m31_238 (a0 : Int32) (a1 : Int32) : M31 238 ls [.int a1,.int a0,.ref (b + 1)] (put (b + 1) pre s A post) Q = M25 0 [.val (.ref (b + 1)),.val (.int a0),.val (.int a1)] [] (put (b + 1) pre s A post) (fun v H1 => M31 241 ls (v.toList ++ []) H1 Q):=w_virt (as:=[.int a1,.int a0]) (rest:=[]) (a:=(b + 1)) (show decode kb31 238 = .ok (.invokevirtual 70,3) from by decide +kernel) cr31_70 put_o rfl rfl (Nat.le_of_ble_eq_true rfl) (by show 3≤3; omega) rfl
theorem m31_241i : M31 241 [l0,l1,.val (.int z),l3,l4,l5] ((.int v)::st) H Q = M31 242 [l0,l1,.val (.int v),l3,l4,l5] st H Q:=w_st (i:=2) (p:=isI) (show decode kb31 241 = .ok (.istore_n 2,1) from by decide +kernel) rfl rfl rfl rfl rfl rfl
theorem m31_242 : M31 242 [l0,.val (.ref r),l2,l3,l4,l5] st H Q = M31 243 [l0,.val (.ref r),l2,l3,l4,l5] (.ref r::st) H Q:=w_x (show decode kb31 242 = .ok (.aload_n 1,1) from by decide +kernel) rfl
theorem m31_243 : M31 243 ls st H Q = M31 244 ls (.int 0::st) H Q:=w_con (show decode kb31 243 = .ok (.iconst 0,1) from by decide +kernel) rfl (by decide)
theorem m31_244 : M31 244 [l0,l1,l2,l3,.val (.int v),l5] st H Q = M31 246 [l0,l1,l2,l3,.val (.int v),l5] (.int v::st) H Q:=w_x (show decode kb31 244 = .ok (.iload 4,2) from by decide +kernel) rfl
theorem m31_246 (a0 : Int32) (a1 : Int32) : M31 246 ls [.int a1,.int a0,.ref (b + 1)] (put (b + 1) pre s A post) Q = M25 0 [.val (.ref (b + 1)),.val (.int a0),.val (.int a1)] [] (put (b + 1) pre s A post) (fun v H1 => M31 249 ls (v.toList ++ []) H1 Q):=w_virt (as:=[.int a1,.int a0]) (rest:=[]) (a:=(b + 1)) (show decode kb31 246 = .ok (.invokevirtual 70,3) from by decide +kernel) cr31_70 put_o rfl rfl (Nat.le_of_ble_eq_true rfl) (by show 3≤3; omega) rfl
theorem m31_249i : M31 249 [l0,l1,l2,.val (.int z),l4,l5] ((.int v)::st) H Q = M31 250 [l0,l1,l2,.val (.int v),l4,l5] st H Q:=w_st (i:=3) (p:=isI) (show decode kb31 249 = .ok (.istore_n 3,1) from by decide +kernel) rfl rfl rfl rfl rfl rfl
theorem m31_250 : M31 250 [l0,l1,.val (.int v),l3,l4,l5] st H Q = M31 251 [l0,l1,.val (.int v),l3,l4,l5] (.int v::st) H Q:=w_x (show decode kb31 250 = .ok (.iload_n 2,1) from by decide +kernel) rfl
theorem m31_251 : M31 251 [l0,l1,l2,.val (.int v),l4,l5] st H Q = M31 252 [l0,l1,l2,.val (.int v),l4,l5] (.int v::st) H Q:=w_x (show decode kb31 251 = .ok (.iload_n 3,1) from by decide +kernel) rfl
theorem m31_252 : M31 252 ls (.int y::.int x::st) H Q = if x = y then M31 257 ls st H Q else M31 255 ls st H Q:=w_icmp (show decode kb31 252 = .ok (.if_icmp .eq 5,3) from by decide +kernel) (i_eq x y) rfl
theorem m31_255 : M31 255 ls st H Q = M31 256 ls (.int 0::st) H Q:=w_con (show decode kb31 255 = .ok (.iconst 0,1) from by decide +kernel) rfl (by decide)
theorem m31_256 : M31 256 ls (.int z::st) H Q = Q (some (.int (nar .boolean z))) H:=w_iretN (show decode kb31 256 = .ok (.ireturn,1) from by decide +kernel) rfl (by simp)
theorem m31_257 : M31 257 [.val (.ref r),l1,l2,l3,l4,l5] st H Q = M31 258 [.val (.ref r),l1,l2,l3,l4,l5] (.ref r::st) H Q:=w_x (show decode kb31 257 = .ok (.aload_n 0,1) from by decide +kernel) rfl
theorem m31_258 : M31 258 ls st H Q = M31 259 ls (.int 1::st) H Q:=w_con (show decode kb31 258 = .ok (.iconst 1,1) from by decide +kernel) rfl (by decide)
theorem m31_259 : M31 259 [l0,l1,l2,l3,.val (.int v),l5] st H Q = M31 261 [l0,l1,l2,l3,.val (.int v),l5] (.int v::st) H Q:=w_x (show decode kb31 259 = .ok (.iload 4,2) from by decide +kernel) rfl
theorem m31_261 (a0 : Int32) (a1 : Int32) : M31 261 ls [.int a1,.int a0,.ref (b + 1)] (put (b + 1) pre s A post) Q = M25 0 [.val (.ref (b + 1)),.val (.int a0),.val (.int a1)] [] (put (b + 1) pre s A post) (fun v H1 => M31 264 ls (v.toList ++ []) H1 Q):=w_virt (as:=[.int a1,.int a0]) (rest:=[]) (a:=(b + 1)) (show decode kb31 261 = .ok (.invokevirtual 70,3) from by decide +kernel) cr31_70 put_o rfl rfl (Nat.le_of_ble_eq_true rfl) (by show 3≤3; omega) rfl
theorem m31_264i : M31 264 [l0,l1,.val (.int z),l3,l4,l5] ((.int v)::st) H Q = M31 265 [l0,l1,.val (.int v),l3,l4,l5] st H Q:=w_st (i:=2) (p:=isI) (show decode kb31 264 = .ok (.istore_n 2,1) from by decide +kernel) rfl rfl rfl rfl rfl rfl
theorem m31_265 : M31 265 [l0,.val (.ref r),l2,l3,l4,l5] st H Q = M31 266 [l0,.val (.ref r),l2,l3,l4,l5] (.ref r::st) H Q:=w_x (show decode kb31 265 = .ok (.aload_n 1,1) from by decide +kernel) rfl
theorem m31_266 : M31 266 ls st H Q = M31 267 ls (.int 1::st) H Q:=w_con (show decode kb31 266 = .ok (.iconst 1,1) from by decide +kernel) rfl (by decide)
theorem m31_267 : M31 267 [l0,l1,l2,l3,.val (.int v),l5] st H Q = M31 269 [l0,l1,l2,l3,.val (.int v),l5] (.int v::st) H Q:=w_x (show decode kb31 267 = .ok (.iload 4,2) from by decide +kernel) rfl
theorem m31_269 (a0 : Int32) (a1 : Int32) : M31 269 ls [.int a1,.int a0,.ref (b + 1)] (put (b + 1) pre s A post) Q = M25 0 [.val (.ref (b + 1)),.val (.int a0),.val (.int a1)] [] (put (b + 1) pre s A post) (fun v H1 => M31 272 ls (v.toList ++ []) H1 Q):=w_virt (as:=[.int a1,.int a0]) (rest:=[]) (a:=(b + 1)) (show decode kb31 269 = .ok (.invokevirtual 70,3) from by decide +kernel) cr31_70 put_o rfl rfl (Nat.le_of_ble_eq_true rfl) (by show 3≤3; omega) rfl
theorem m31_272i : M31 272 [l0,l1,l2,.val (.int z),l4,l5] ((.int v)::st) H Q = M31 273 [l0,l1,l2,.val (.int v),l4,l5] st H Q:=w_st (i:=3) (p:=isI) (show decode kb31 272 = .ok (.istore_n 3,1) from by decide +kernel) rfl rfl rfl rfl rfl rfl
theorem m31_273 : M31 273 [l0,l1,.val (.int v),l3,l4,l5] st H Q = M31 274 [l0,l1,.val (.int v),l3,l4,l5] (.int v::st) H Q:=w_x (show decode kb31 273 = .ok (.iload_n 2,1) from by decide +kernel) rfl
theorem m31_274 : M31 274 [l0,l1,l2,.val (.int v),l4,l5] st H Q = M31 275 [l0,l1,l2,.val (.int v),l4,l5] (.int v::st) H Q:=w_x (show decode kb31 274 = .ok (.iload_n 3,1) from by decide +kernel) rfl
theorem m31_275 : M31 275 ls (.int y::.int x::st) H Q = if x = y then M31 280 ls st H Q else M31 278 ls st H Q:=w_icmp (show decode kb31 275 = .ok (.if_icmp .eq 5,3) from by decide +kernel) (i_eq x y) rfl
theorem m31_278 : M31 278 ls st H Q = M31 279 ls (.int 0::st) H Q:=w_con (show decode kb31 278 = .ok (.iconst 0,1) from by decide +kernel) rfl (by decide)
theorem m31_279 : M31 279 ls (.int z::st) H Q = Q (some (.int (nar .boolean z))) H:=w_iretN (show decode kb31 279 = .ok (.ireturn,1) from by decide +kernel) rfl (by simp)
theorem m31_280 : M31 280 [l0,l1,l2,l3,.val (.int v),l5] st H Q = M31 283 [l0,l1,l2,l3,.val (.int (v + 1)),l5] st H Q:=w_iinc (show decode kb31 280 = .ok (.iinc 4 1,3) from by decide +kernel) rfl (by decide) rfl
theorem m31_283 : M31 283 ls st H Q = M31 227 ls st H Q:=w_x (show decode kb31 283 = .ok (.goto (-56),3) from by decide +kernel) rfl
theorem m31_286 : M31 286 ls st H Q = M31 287 ls (.int 1::st) H Q:=w_con (show decode kb31 286 = .ok (.iconst 1,1) from by decide +kernel) rfl (by decide)
theorem m31_287 : M31 287 ls (.int z::st) H Q = Q (some (.int (nar .boolean z))) H:=w_iretN (show decode kb31 287 = .ok (.ireturn,1) from by decide +kernel) rfl (by simp)
theorem m32_0 : M32 0 ls st H Q = M32 3 ls (.ref H.length::st) (H ++ [(.object "RetimingEngine", D0)]) Q:=(w_new (C := "RetimingEngine") at_0 (by rw [hNew,show rCls tables_1 y32.cls 7 = some "RetimingEngine" from by decide +kernel]; dsimp only; rw [if_pos (by decide +kernel)])).trans (by rw [lay0]; rfl)
theorem m32_3 : M32 3 ls ((.ref r)::st) H Q = M32 4 ls ((.ref r)::(.ref r)::st) H Q:=w_x at_3 rfl
theorem cr32_9 : nR tables_1 dn y32 9 = some (y0,prog_1_method_1_code,1,none,0,58):=nR_of (cR_of (by decide +kernel) rc_0 dn_0 dn_32 (sig:=⟨[],none⟩) (by decide +kernel) (by decide +kernel) rfl rfl) rfl (by decide +kernel) rfl
theorem cr32_9_o : oR tables_1 dn y32 9 = none:=by decide +kernel
theorem m32_4 (u0 : Nat) : M32 4 ls [.ref r,.ref u0] H Q = M0 0 [.val (.ref r)] [] H (fun v H1 => M32 7 ls (v.toList ++ [.ref u0]) H1 Q):=w_spec (as:=[]) (rest:=[.ref u0]) (a:=r) at_4 cr32_9_o cr32_9 rfl (Nat.le_of_ble_eq_true rfl) (by show 1≤1; omega) rfl
theorem m32_7u : M32 7 [l0,.unset,l2,l3,l4,l5,l6] ((.ref r)::st) H Q = M32 8 [l0,.val (.ref r),l2,l3,l4,l5,l6] st H Q:=w_st (i:=1) (p:=Value.isRef) at_7 rfl rfl rfl rfl rfl rfl
theorem m32_8 : M32 8 ls st H Q = M32 11 ls (.ref H.length::st) (H ++ [(.object "RetimingEngine", D0)]) Q:=(w_new (C := "RetimingEngine") at_8 (by rw [hNew,show rCls tables_1 y32.cls 7 = some "RetimingEngine" from by decide +kernel]; dsimp only; rw [if_pos (by decide +kernel)])).trans (by rw [lay0]; rfl)
theorem m32_11 : M32 11 ls ((.ref r)::st) H Q = M32 12 ls ((.ref r)::(.ref r)::st) H Q:=w_x at_11 rfl
theorem m32_12 (u0 : Nat) : M32 12 ls [.ref r,.ref u0] H Q = M0 0 [.val (.ref r)] [] H (fun v H1 => M32 15 ls (v.toList ++ [.ref u0]) H1 Q):=w_spec (as:=[]) (rest:=[.ref u0]) (a:=r) at_12 cr32_9_o cr32_9 rfl (Nat.le_of_ble_eq_true rfl) (by show 1≤1; omega) rfl
theorem m32_15u : M32 15 [l0,l1,.unset,l3,l4,l5,l6] ((.ref r)::st) H Q = M32 16 [l0,l1,.val (.ref r),l3,l4,l5,l6] st H Q:=w_st (i:=2) (p:=Value.isRef) at_15 rfl rfl rfl rfl rfl rfl
theorem m32_16 : M32 16 [l0,.val (.ref r),l2,l3,l4,l5,l6] st H Q = M32 17 [l0,.val (.ref r),l2,l3,l4,l5,l6] (.ref r::st) H Q:=w_x at_16 rfl
theorem m32_17 : M32 17 [.val (.ref r),l1,l2,l3,l4,l5,l6] st H Q = M32 18 [.val (.ref r),l1,l2,l3,l4,l5,l6] (.ref r::st) H Q:=w_x at_17 rfl
theorem cr32_10 : sR tables_1 dn y32 10 = some (y30,method_3_code,4,none,2,0):=sR_of (cR_of (by decide +kernel) rc_30 dn_30 dn_32 (sig:=⟨[.object "RetimingEngine", .array .int],none⟩) (by decide +kernel) (by decide +kernel) rfl rfl) (by decide +kernel)
theorem m32_18 (a0 : Nat) (a1 : Nat) : M32 18 ls [.ref a1,.ref a0] H Q = M30 0 [.val (.ref a0),.val (.ref a1),.unset,.unset] [] H (fun v H1 => M32 21 ls (v.toList ++ []) H1 Q):=w_stat (as:=[.ref a1,.ref a0]) (rest:=[]) at_18 cr32_10 rfl (Nat.le_of_ble_eq_true rfl) (by show 2≤4; omega) rfl
theorem m32_21 : M32 21 [l0,.val (.ref r),l2,l3,l4,l5,l6] st H Q = M32 22 [l0,.val (.ref r),l2,l3,l4,l5,l6] (.ref r::st) H Q:=w_x at_21 rfl
theorem cr32_16 : vR tables_1 dn y32 16 = some (false,y15,prog_1_method_17_code,1,none,0,70):=vR_of (cR_of (by decide +kernel) rc_15 dn_15 dn_32 (sig:=⟨[],none⟩) (by decide +kernel) (by decide +kernel) rfl rfl) (by decide +kernel) (by decide +kernel) (by decide +kernel)
theorem m32_22 : M32 22 ls [.ref (b + 1)] (put (b + 1) pre s A post) Q = M15 0 [.val (.ref (b + 1))] [] (put (b + 1) pre s A post) (fun v H1 => M32 25 ls (v.toList ++ []) H1 Q):=w_virt (as:=[]) (rest:=[]) (a:=(b + 1)) at_22 cr32_16 put_o rfl rfl (Nat.le_of_ble_eq_true rfl) (by show 1≤1; omega) rfl
theorem m32_25 : M32 25 [l0,.val (.ref r),l2,l3,l4,l5,l6] st H Q = M32 26 [l0,.val (.ref r),l2,l3,l4,l5,l6] (.ref r::st) H Q:=w_x at_25 rfl
theorem m32_26 : M32 26 [.val (.ref r),l1,l2,l3,l4,l5,l6] st H Q = M32 27 [.val (.ref r),l1,l2,l3,l4,l5,l6] (.ref r::st) H Q:=w_x at_26 rfl
theorem m32_27 (a0 : Nat) (a1 : Nat) : M32 27 ls [.ref a1,.ref a0] H Q = M30 0 [.val (.ref a0),.val (.ref a1),.unset,.unset] [] H (fun v H1 => M32 30 ls (v.toList ++ []) H1 Q):=w_stat (as:=[.ref a1,.ref a0]) (rest:=[]) at_27 cr32_10 rfl (Nat.le_of_ble_eq_true rfl) (by show 2≤4; omega) rfl
theorem m32_30 : M32 30 [l0,l1,.val (.ref r),l3,l4,l5,l6] st H Q = M32 31 [l0,l1,.val (.ref r),l3,l4,l5,l6] (.ref r::st) H Q:=w_x at_30 rfl
theorem m32_31 : M32 31 [.val (.ref r),l1,l2,l3,l4,l5,l6] st H Q = M32 32 [.val (.ref r),l1,l2,l3,l4,l5,l6] (.ref r::st) H Q:=w_x at_31 rfl
theorem m32_32 (a0 : Nat) (a1 : Nat) : M32 32 ls [.ref a1,.ref a0] H Q = M30 0 [.val (.ref a0),.val (.ref a1),.unset,.unset] [] H (fun v H1 => M32 35 ls (v.toList ++ []) H1 Q):=w_stat (as:=[.ref a1,.ref a0]) (rest:=[]) at_32 cr32_10 rfl (Nat.le_of_ble_eq_true rfl) (by show 2≤4; omega) rfl
theorem m32_35 : M32 35 [l0,.val (.ref r),l2,l3,l4,l5,l6] st H Q = M32 36 [l0,.val (.ref r),l2,l3,l4,l5,l6] (.ref r::st) H Q:=w_x at_35 rfl
theorem m32_36 : M32 36 [l0,l1,.val (.ref r),l3,l4,l5,l6] st H Q = M32 37 [l0,l1,.val (.ref r),l3,l4,l5,l6] (.ref r::st) H Q:=w_x at_36 rfl
theorem cr32_19 : sR tables_1 dn y32 19 = some (y31,method_4_code,6,(some .boolean),2,36):=sR_of (cR_of (by decide +kernel) rc_31 dn_31 dn_32 (sig:=⟨[.object "RetimingEngine", .object "RetimingEngine"],some .boolean⟩) (by decide +kernel) (by decide +kernel) rfl rfl) (by decide +kernel)
theorem m32_37 (a0 : Nat) (a1 : Nat) : M32 37 ls [.ref a1,.ref a0] H Q = M31 0 [.val (.ref a0),.val (.ref a1),.unset,.unset,.unset,.unset] [] H (fun v H1 => M32 40 ls (v.toList ++ []) H1 Q):=w_stat (as:=[.ref a1,.ref a0]) (rest:=[]) at_37 cr32_19 rfl (Nat.le_of_ble_eq_true rfl) (by show 2≤6; omega) rfl
theorem m32_40 : M32 40 ls (.int x::st) H Q = if x = 0 then M32 43 ls st H Q else M32 45 ls st H Q:=w_ifN at_40 (z_ne x) rfl
theorem m32_43 : M32 43 ls st H Q = M32 44 ls (.int 0::st) H Q:=w_con at_43 rfl (by decide)
theorem m32_44 : M32 44 ls (.int z::st) H Q = Q (some (.int (nar .boolean z))) H:=w_iretN at_44 rfl (by simp)
theorem m32_45 : M32 45 [l0,.val (.ref r),l2,l3,l4,l5,l6] st H Q = M32 46 [l0,.val (.ref r),l2,l3,l4,l5,l6] (.ref r::st) H Q:=w_x at_45 rfl
theorem cr32_23 : vR tables_1 dn y32 23 = some (false,y26,prog_1_method_15_code,2,(some .int),0,15):=vR_of (cR_of (by decide +kernel) rc_26 dn_26 dn_32 (sig:=⟨[],some .int⟩) (by decide +kernel) (by decide +kernel) rfl rfl) (by decide +kernel) (by decide +kernel) (by decide +kernel)
theorem m32_46 : M32 46 ls [.ref (b + 1)] (put (b + 1) pre s A post) Q = M26 0 [.val (.ref (b + 1)),.unset] [] (put (b + 1) pre s A post) (fun v H1 => M32 49 ls (v.toList ++ []) H1 Q):=w_virt (as:=[]) (rest:=[]) (a:=(b + 1)) at_46 cr32_23 put_o rfl rfl (Nat.le_of_ble_eq_true rfl) (by show 1≤2; omega) rfl
theorem m32_49u : M32 49 [l0,l1,l2,.unset,l4,l5,l6] ((.int v)::st) H Q = M32 50 [l0,l1,l2,.val (.int v),l4,l5,l6] st H Q:=w_st (i:=3) (p:=isI) at_49 rfl rfl rfl rfl rfl rfl
theorem m32_50 : M32 50 [l0,l1,.val (.ref r),l3,l4,l5,l6] st H Q = M32 51 [l0,l1,.val (.ref r),l3,l4,l5,l6] (.ref r::st) H Q:=w_x at_50 rfl
theorem m32_51 : M32 51 ls [.ref (b + 1)] (put (b + 1) pre s A post) Q = M26 0 [.val (.ref (b + 1)),.unset] [] (put (b + 1) pre s A post) (fun v H1 => M32 54 ls (v.toList ++ []) H1 Q):=w_virt (as:=[]) (rest:=[]) (a:=(b + 1)) at_51 cr32_23 put_o rfl rfl (Nat.le_of_ble_eq_true rfl) (by show 1≤2; omega) rfl
theorem m32_54u : M32 54 [l0,l1,l2,l3,.unset,l5,l6] ((.int v)::st) H Q = M32 56 [l0,l1,l2,l3,.val (.int v),l5,l6] st H Q:=w_st (i:=4) (p:=isI) at_54 rfl rfl rfl rfl rfl rfl
theorem m32_56 : M32 56 [l0,l1,l2,.val (.int v),l4,l5,l6] st H Q = M32 57 [l0,l1,l2,.val (.int v),l4,l5,l6] (.int v::st) H Q:=w_x at_56 rfl
theorem m32_57 : M32 57 [l0,l1,l2,l3,.val (.int v),l5,l6] st H Q = M32 59 [l0,l1,l2,l3,.val (.int v),l5,l6] (.int v::st) H Q:=w_x at_57 rfl
theorem m32_59 : M32 59 ls (.int y::.int x::st) H Q = if x = y then M32 62 ls st H Q else M32 70 ls st H Q:=w_icmpN at_59 (i_ne x y) rfl
theorem m32_62 : M32 62 [l0,.val (.ref r),l2,l3,l4,l5,l6] st H Q = M32 63 [l0,.val (.ref r),l2,l3,l4,l5,l6] (.ref r::st) H Q:=w_x at_62 rfl
theorem m32_63 : M32 63 [l0,l1,.val (.ref r),l3,l4,l5,l6] st H Q = M32 64 [l0,l1,.val (.ref r),l3,l4,l5,l6] (.ref r::st) H Q:=w_x at_63 rfl
theorem m32_64 (a0 : Nat) (a1 : Nat) : M32 64 ls [.ref a1,.ref a0] H Q = M31 0 [.val (.ref a0),.val (.ref a1),.unset,.unset,.unset,.unset] [] H (fun v H1 => M32 67 ls (v.toList ++ []) H1 Q):=w_stat (as:=[.ref a1,.ref a0]) (rest:=[]) at_64 cr32_19 rfl (Nat.le_of_ble_eq_true rfl) (by show 2≤6; omega) rfl
theorem m32_67 : M32 67 ls (.int x::st) H Q = if x = 0 then M32 70 ls st H Q else M32 72 ls st H Q:=w_ifN at_67 (z_ne x) rfl
theorem m32_70 : M32 70 ls st H Q = M32 71 ls (.int 0::st) H Q:=w_con at_70 rfl (by decide)
theorem m32_71 : M32 71 ls (.int z::st) H Q = Q (some (.int (nar .boolean z))) H:=w_iretN at_71 rfl (by simp)
theorem m32_72 : M32 72 [l0,.val (.ref r),l2,l3,l4,l5,l6] st H Q = M32 73 [l0,.val (.ref r),l2,l3,l4,l5,l6] (.ref r::st) H Q:=w_x at_72 rfl
theorem m32_73 : M32 73 ls st H Q = M32 74 ls (.int 1::st) H Q:=w_con at_73 rfl (by decide)
theorem m32_74 : M32 74 ls st H Q = M32 75 ls (.int 0::st) H Q:=w_con at_74 rfl (by decide)
theorem m32_75 : M32 75 ls st H Q = M32 76 ls (.int 0::st) H Q:=w_con at_75 rfl (by decide)
theorem cr32_27 : vR tables_1 dn y32 27 = some (false,y3,prog_1_method_2_code,4,(some .int),3,67):=vR_of (cR_of (by decide +kernel) rc_3 dn_3 dn_32 (sig:=⟨[.int,.int,.int],some .int⟩) (by decide +kernel) (by decide +kernel) rfl rfl) (by decide +kernel) (by decide +kernel) (by decide +kernel)
theorem m32_76 (a0 : Int32) (a1 : Int32) (a2 : Int32) : M32 76 ls [.int a2,.int a1,.int a0,.ref (b + 1)] (put (b + 1) pre s A post) Q = M3 0 [.val (.ref (b + 1)),.val (.int a0),.val (.int a1),.val (.int a2)] [] (put (b + 1) pre s A post) (fun v H1 => M32 79 ls (v.toList ++ []) H1 Q):=w_virt (as:=[.int a2,.int a1,.int a0]) (rest:=[]) (a:=(b + 1)) at_76 cr32_27 put_o rfl rfl (Nat.le_of_ble_eq_true rfl) (by show 4≤4; omega) rfl
theorem m32_79u : M32 79 [l0,l1,l2,l3,l4,.unset,l6] ((.int v)::st) H Q = M32 81 [l0,l1,l2,l3,l4,.val (.int v),l6] st H Q:=w_st (i:=5) (p:=isI) at_79 rfl rfl rfl rfl rfl rfl
theorem m32_81 : M32 81 [l0,l1,.val (.ref r),l3,l4,l5,l6] st H Q = M32 82 [l0,l1,.val (.ref r),l3,l4,l5,l6] (.ref r::st) H Q:=w_x at_81 rfl
theorem m32_82 : M32 82 ls st H Q = M32 83 ls (.int 1::st) H Q:=w_con at_82 rfl (by decide)
theorem m32_83 : M32 83 ls st H Q = M32 84 ls (.int 0::st) H Q:=w_con at_83 rfl (by decide)
theorem m32_84 : M32 84 ls st H Q = M32 85 ls (.int 0::st) H Q:=w_con at_84 rfl (by decide)
theorem m32_85 (a0 : Int32) (a1 : Int32) (a2 : Int32) : M32 85 ls [.int a2,.int a1,.int a0,.ref (b + 1)] (put (b + 1) pre s A post) Q = M3 0 [.val (.ref (b + 1)),.val (.int a0),.val (.int a1),.val (.int a2)] [] (put (b + 1) pre s A post) (fun v H1 => M32 88 ls (v.toList ++ []) H1 Q):=w_virt (as:=[.int a2,.int a1,.int a0]) (rest:=[]) (a:=(b + 1)) at_85 cr32_27 put_o rfl rfl (Nat.le_of_ble_eq_true rfl) (by show 4≤4; omega) rfl
theorem m32_88u : M32 88 [l0,l1,l2,l3,l4,l5,.unset] ((.int v)::st) H Q = M32 90 [l0,l1,l2,l3,l4,l5,.val (.int v)] st H Q:=w_st (i:=6) (p:=isI) at_88 rfl rfl rfl rfl rfl rfl
theorem m32_90 : M32 90 [l0,l1,l2,l3,l4,.val (.int v),l6] st H Q = M32 92 [l0,l1,l2,l3,l4,.val (.int v),l6] (.int v::st) H Q:=w_x at_90 rfl
theorem m32_92 : M32 92 [l0,l1,l2,l3,l4,l5,.val (.int v)] st H Q = M32 94 [l0,l1,l2,l3,l4,l5,.val (.int v)] (.int v::st) H Q:=w_x at_92 rfl
theorem m32_94 : M32 94 ls (.int y::.int x::st) H Q = if x = y then M32 97 ls st H Q else M32 101 ls st H Q:=w_icmpN at_94 (i_ne x y) rfl
theorem m32_97 : M32 97 ls st H Q = M32 98 ls (.int 1::st) H Q:=w_con at_97 rfl (by decide)
theorem m32_98 : M32 98 ls st H Q = M32 102 ls st H Q:=w_x at_98 rfl
theorem m32_101 : M32 101 ls st H Q = M32 102 ls (.int 0::st) H Q:=w_con at_101 rfl (by decide)
theorem m32_102 : M32 102 ls (.int z::st) H Q = Q (some (.int (nar .boolean z))) H:=w_iretN at_102 rfl (by simp)
theorem pf0_7 : pfR tables_1 y0.cls y0.name 7 = some ("RetimingEngine", 0,.array .int):=by decide +kernel
theorem m0_4a (hH : H.length = b) (hk : 1≤b) {vs : List Value} {r : AHeap} (hj : 0 < vs.length) : M0 4 (.val (.ref b)::[]) [] (H ++ (.object "RetimingEngine", vs)::r) Q = M0 12 (.val (.ref b)::[]) [] (H ++ (.object "RetimingEngine", vs.set 0 (.ref (b + (r.length + 1))))::(r ++ [(.array .int,List.replicate 32 (.int 0))])) Q:=w_iarr (n:=32) rfl hH hk (show decode kb0 4 = .ok (.aload_n 0,1) from by decide +kernel) rfl (show decode kb0 5 = .ok (.bipush 32,2) from by decide +kernel) (fun _ => rfl) (by decide) (show decode kb0 7 = .ok (.newarray .int,2) from by decide +kernel) rfl (by decide +kernel) (by decide) (by decide) rfl (show decode kb0 9 = .ok (.putfield 7,3) from by decide +kernel) pf0_7 hj
theorem pf0_13 : pfR tables_1 y0.cls y0.name 13 = some ("RetimingEngine", 1,.array .int):=by decide +kernel
theorem m0_12a (hH : H.length = b) (hk : 1≤b) {vs : List Value} {r : AHeap} (hj : 1 < vs.length) : M0 12 (.val (.ref b)::[]) [] (H ++ (.object "RetimingEngine", vs)::r) Q = M0 20 (.val (.ref b)::[]) [] (H ++ (.object "RetimingEngine", vs.set 1 (.ref (b + (r.length + 1))))::(r ++ [(.array .int,List.replicate 32 (.int 0))])) Q:=w_iarr (n:=32) rfl hH hk (show decode kb0 12 = .ok (.aload_n 0,1) from by decide +kernel) rfl (show decode kb0 13 = .ok (.bipush 32,2) from by decide +kernel) (fun _ => rfl) (by decide) (show decode kb0 15 = .ok (.newarray .int,2) from by decide +kernel) rfl (by decide +kernel) (by decide) (by decide) rfl (show decode kb0 17 = .ok (.putfield 13,3) from by decide +kernel) pf0_13 hj
theorem pf0_16 : pfR tables_1 y0.cls y0.name 16 = some ("RetimingEngine", 2,.array .int):=by decide +kernel
theorem m0_20a (hH : H.length = b) (hk : 1≤b) {vs : List Value} {r : AHeap} (hj : 2 < vs.length) : M0 20 (.val (.ref b)::[]) [] (H ++ (.object "RetimingEngine", vs)::r) Q = M0 28 (.val (.ref b)::[]) [] (H ++ (.object "RetimingEngine", vs.set 2 (.ref (b + (r.length + 1))))::(r ++ [(.array .int,List.replicate 32 (.int 0))])) Q:=w_iarr (n:=32) rfl hH hk (show decode kb0 20 = .ok (.aload_n 0,1) from by decide +kernel) rfl (show decode kb0 21 = .ok (.bipush 32,2) from by decide +kernel) (fun _ => rfl) (by decide) (show decode kb0 23 = .ok (.newarray .int,2) from by decide +kernel) rfl (by decide +kernel) (by decide) (by decide) rfl (show decode kb0 25 = .ok (.putfield 16,3) from by decide +kernel) pf0_16 hj
theorem pf0_19 : pfR tables_1 y0.cls y0.name 19 = some ("RetimingEngine", 3,.array .int):=by decide +kernel
theorem m0_28a (hH : H.length = b) (hk : 1≤b) {vs : List Value} {r : AHeap} (hj : 3 < vs.length) : M0 28 (.val (.ref b)::[]) [] (H ++ (.object "RetimingEngine", vs)::r) Q = M0 36 (.val (.ref b)::[]) [] (H ++ (.object "RetimingEngine", vs.set 3 (.ref (b + (r.length + 1))))::(r ++ [(.array .int,List.replicate 64 (.int 0))])) Q:=w_iarr (n:=64) rfl hH hk (show decode kb0 28 = .ok (.aload_n 0,1) from by decide +kernel) rfl (show decode kb0 29 = .ok (.bipush 64,2) from by decide +kernel) (fun _ => rfl) (by decide) (show decode kb0 31 = .ok (.newarray .int,2) from by decide +kernel) rfl (by decide +kernel) (by decide) (by decide) rfl (show decode kb0 33 = .ok (.putfield 19,3) from by decide +kernel) pf0_19 hj
theorem pf0_22 : pfR tables_1 y0.cls y0.name 22 = some ("RetimingEngine", 4,.array .int):=by decide +kernel
theorem m0_36a (hH : H.length = b) (hk : 1≤b) {vs : List Value} {r : AHeap} (hj : 4 < vs.length) : M0 36 (.val (.ref b)::[]) [] (H ++ (.object "RetimingEngine", vs)::r) Q = M0 44 (.val (.ref b)::[]) [] (H ++ (.object "RetimingEngine", vs.set 4 (.ref (b + (r.length + 1))))::(r ++ [(.array .int,List.replicate 64 (.int 0))])) Q:=w_iarr (n:=64) rfl hH hk (show decode kb0 36 = .ok (.aload_n 0,1) from by decide +kernel) rfl (show decode kb0 37 = .ok (.bipush 64,2) from by decide +kernel) (fun _ => rfl) (by decide) (show decode kb0 39 = .ok (.newarray .int,2) from by decide +kernel) rfl (by decide +kernel) (by decide) (by decide) rfl (show decode kb0 41 = .ok (.putfield 22,3) from by decide +kernel) pf0_22 hj
theorem pf0_25 : pfR tables_1 y0.cls y0.name 25 = some ("RetimingEngine", 5,.array .int):=by decide +kernel
theorem m0_44a (hH : H.length = b) (hk : 1≤b) {vs : List Value} {r : AHeap} (hj : 5 < vs.length) : M0 44 (.val (.ref b)::[]) [] (H ++ (.object "RetimingEngine", vs)::r) Q = M0 52 (.val (.ref b)::[]) [] (H ++ (.object "RetimingEngine", vs.set 5 (.ref (b + (r.length + 1))))::(r ++ [(.array .int,List.replicate 64 (.int 0))])) Q:=w_iarr (n:=64) rfl hH hk (show decode kb0 44 = .ok (.aload_n 0,1) from by decide +kernel) rfl (show decode kb0 45 = .ok (.bipush 64,2) from by decide +kernel) (fun _ => rfl) (by decide) (show decode kb0 47 = .ok (.newarray .int,2) from by decide +kernel) rfl (by decide +kernel) (by decide) (by decide) rfl (show decode kb0 49 = .ok (.putfield 25,3) from by decide +kernel) pf0_25 hj
theorem pf0_28 : pfR tables_1 y0.cls y0.name 28 = some ("RetimingEngine", 6,.array .int):=by decide +kernel
theorem m0_52a (hH : H.length = b) (hk : 1≤b) {vs : List Value} {r : AHeap} (hj : 6 < vs.length) : M0 52 (.val (.ref b)::[]) [] (H ++ (.object "RetimingEngine", vs)::r) Q = M0 60 (.val (.ref b)::[]) [] (H ++ (.object "RetimingEngine", vs.set 6 (.ref (b + (r.length + 1))))::(r ++ [(.array .int,List.replicate 64 (.int 0))])) Q:=w_iarr (n:=64) rfl hH hk (show decode kb0 52 = .ok (.aload_n 0,1) from by decide +kernel) rfl (show decode kb0 53 = .ok (.bipush 64,2) from by decide +kernel) (fun _ => rfl) (by decide) (show decode kb0 55 = .ok (.newarray .int,2) from by decide +kernel) rfl (by decide +kernel) (by decide) (by decide) rfl (show decode kb0 57 = .ok (.putfield 28,3) from by decide +kernel) pf0_28 hj
theorem pf0_31 : pfR tables_1 y0.cls y0.name 31 = some ("RetimingEngine", 7,.array .int):=by decide +kernel
theorem m0_60a (hH : H.length = b) (hk : 1≤b) {vs : List Value} {r : AHeap} (hj : 7 < vs.length) : M0 60 (.val (.ref b)::[]) [] (H ++ (.object "RetimingEngine", vs)::r) Q = M0 68 (.val (.ref b)::[]) [] (H ++ (.object "RetimingEngine", vs.set 7 (.ref (b + (r.length + 1))))::(r ++ [(.array .int,List.replicate 32 (.int 0))])) Q:=w_iarr (n:=32) rfl hH hk (show decode kb0 60 = .ok (.aload_n 0,1) from by decide +kernel) rfl (show decode kb0 61 = .ok (.bipush 32,2) from by decide +kernel) (fun _ => rfl) (by decide) (show decode kb0 63 = .ok (.newarray .int,2) from by decide +kernel) rfl (by decide +kernel) (by decide) (by decide) rfl (show decode kb0 65 = .ok (.putfield 31,3) from by decide +kernel) pf0_31 hj
theorem pf0_34 : pfR tables_1 y0.cls y0.name 34 = some ("RetimingEngine", 8,.array .int):=by decide +kernel
theorem m0_68a (hH : H.length = b) (hk : 1≤b) {vs : List Value} {r : AHeap} (hj : 8 < vs.length) : M0 68 (.val (.ref b)::[]) [] (H ++ (.object "RetimingEngine", vs)::r) Q = M0 76 (.val (.ref b)::[]) [] (H ++ (.object "RetimingEngine", vs.set 8 (.ref (b + (r.length + 1))))::(r ++ [(.array .int,List.replicate 64 (.int 0))])) Q:=w_iarr (n:=64) rfl hH hk (show decode kb0 68 = .ok (.aload_n 0,1) from by decide +kernel) rfl (show decode kb0 69 = .ok (.bipush 64,2) from by decide +kernel) (fun _ => rfl) (by decide) (show decode kb0 71 = .ok (.newarray .int,2) from by decide +kernel) rfl (by decide +kernel) (by decide) (by decide) rfl (show decode kb0 73 = .ok (.putfield 34,3) from by decide +kernel) pf0_34 hj
theorem pf0_37 : pfR tables_1 y0.cls y0.name 37 = some ("RetimingEngine", 9,.array .int):=by decide +kernel
theorem m0_76a (hH : H.length = b) (hk : 1≤b) {vs : List Value} {r : AHeap} (hj : 9 < vs.length) : M0 76 (.val (.ref b)::[]) [] (H ++ (.object "RetimingEngine", vs)::r) Q = M0 85 (.val (.ref b)::[]) [] (H ++ (.object "RetimingEngine", vs.set 9 (.ref (b + (r.length + 1))))::(r ++ [(.array .int,List.replicate 1024 (.int 0))])) Q:=w_iarr (n:=1024) rfl hH hk (show decode kb0 76 = .ok (.aload_n 0,1) from by decide +kernel) rfl (show decode kb0 77 = .ok (.sipush 1024,3) from by decide +kernel) (fun _ => rfl) (by decide) (show decode kb0 80 = .ok (.newarray .int,2) from by decide +kernel) rfl (by decide +kernel) (by decide) (by decide) rfl (show decode kb0 82 = .ok (.putfield 37,3) from by decide +kernel) pf0_37 hj
theorem pf0_40 : pfR tables_1 y0.cls y0.name 40 = some ("RetimingEngine", 10,.array .int):=by decide +kernel
theorem m0_85a (hH : H.length = b) (hk : 1≤b) {vs : List Value} {r : AHeap} (hj : 10 < vs.length) : M0 85 (.val (.ref b)::[]) [] (H ++ (.object "RetimingEngine", vs)::r) Q = M0 94 (.val (.ref b)::[]) [] (H ++ (.object "RetimingEngine", vs.set 10 (.ref (b + (r.length + 1))))::(r ++ [(.array .int,List.replicate 1024 (.int 0))])) Q:=w_iarr (n:=1024) rfl hH hk (show decode kb0 85 = .ok (.aload_n 0,1) from by decide +kernel) rfl (show decode kb0 86 = .ok (.sipush 1024,3) from by decide +kernel) (fun _ => rfl) (by decide) (show decode kb0 89 = .ok (.newarray .int,2) from by decide +kernel) rfl (by decide +kernel) (by decide) (by decide) rfl (show decode kb0 91 = .ok (.putfield 40,3) from by decide +kernel) pf0_40 hj
theorem pf0_43 : pfR tables_1 y0.cls y0.name 43 = some ("RetimingEngine", 11,.array .boolean):=by decide +kernel
theorem m0_94a (hH : H.length = b) (hk : 1≤b) {vs : List Value} {r : AHeap} (hj : 11 < vs.length) : M0 94 (.val (.ref b)::[]) [] (H ++ (.object "RetimingEngine", vs)::r) Q = M0 103 (.val (.ref b)::[]) [] (H ++ (.object "RetimingEngine", vs.set 11 (.ref (b + (r.length + 1))))::(r ++ [(.array .boolean,List.replicate 1024 (.int 0))])) Q:=w_iarr (n:=1024) rfl hH hk (show decode kb0 94 = .ok (.aload_n 0,1) from by decide +kernel) rfl (show decode kb0 95 = .ok (.sipush 1024,3) from by decide +kernel) (fun _ => rfl) (by decide) (show decode kb0 98 = .ok (.newarray .boolean,2) from by decide +kernel) rfl (by decide +kernel) (by decide) (by decide) rfl (show decode kb0 100 = .ok (.putfield 43,3) from by decide +kernel) pf0_43 hj
theorem pf0_47 : pfR tables_1 y0.cls y0.name 47 = some ("RetimingEngine", 12,.array .int):=by decide +kernel
theorem m0_103a (hH : H.length = b) (hk : 1≤b) {vs : List Value} {r : AHeap} (hj : 12 < vs.length) : M0 103 (.val (.ref b)::[]) [] (H ++ (.object "RetimingEngine", vs)::r) Q = M0 111 (.val (.ref b)::[]) [] (H ++ (.object "RetimingEngine", vs.set 12 (.ref (b + (r.length + 1))))::(r ++ [(.array .int,List.replicate 32 (.int 0))])) Q:=w_iarr (n:=32) rfl hH hk (show decode kb0 103 = .ok (.aload_n 0,1) from by decide +kernel) rfl (show decode kb0 104 = .ok (.bipush 32,2) from by decide +kernel) (fun _ => rfl) (by decide) (show decode kb0 106 = .ok (.newarray .int,2) from by decide +kernel) rfl (by decide +kernel) (by decide) (by decide) rfl (show decode kb0 108 = .ok (.putfield 47,3) from by decide +kernel) pf0_47 hj
theorem pf0_50 : pfR tables_1 y0.cls y0.name 50 = some ("RetimingEngine", 13,.array .int):=by decide +kernel
theorem m0_111a (hH : H.length = b) (hk : 1≤b) {vs : List Value} {r : AHeap} (hj : 13 < vs.length) : M0 111 (.val (.ref b)::[]) [] (H ++ (.object "RetimingEngine", vs)::r) Q = M0 119 (.val (.ref b)::[]) [] (H ++ (.object "RetimingEngine", vs.set 13 (.ref (b + (r.length + 1))))::(r ++ [(.array .int,List.replicate 32 (.int 0))])) Q:=w_iarr (n:=32) rfl hH hk (show decode kb0 111 = .ok (.aload_n 0,1) from by decide +kernel) rfl (show decode kb0 112 = .ok (.bipush 32,2) from by decide +kernel) (fun _ => rfl) (by decide) (show decode kb0 114 = .ok (.newarray .int,2) from by decide +kernel) rfl (by decide +kernel) (by decide) (by decide) rfl (show decode kb0 116 = .ok (.putfield 50,3) from by decide +kernel) pf0_50 hj
theorem pf0_53 : pfR tables_1 y0.cls y0.name 53 = some ("RetimingEngine", 14,.array .int):=by decide +kernel
theorem m0_119a (hH : H.length = b) (hk : 1≤b) {vs : List Value} {r : AHeap} (hj : 14 < vs.length) : M0 119 (.val (.ref b)::[]) [] (H ++ (.object "RetimingEngine", vs)::r) Q = M0 127 (.val (.ref b)::[]) [] (H ++ (.object "RetimingEngine", vs.set 14 (.ref (b + (r.length + 1))))::(r ++ [(.array .int,List.replicate 32 (.int 0))])) Q:=w_iarr (n:=32) rfl hH hk (show decode kb0 119 = .ok (.aload_n 0,1) from by decide +kernel) rfl (show decode kb0 120 = .ok (.bipush 32,2) from by decide +kernel) (fun _ => rfl) (by decide) (show decode kb0 122 = .ok (.newarray .int,2) from by decide +kernel) rfl (by decide +kernel) (by decide) (by decide) rfl (show decode kb0 124 = .ok (.putfield 53,3) from by decide +kernel) pf0_53 hj
theorem pf0_56 : pfR tables_1 y0.cls y0.name 56 = some ("RetimingEngine", 15,.array .int):=by decide +kernel
theorem m0_127a (hH : H.length = b) (hk : 1≤b) {vs : List Value} {r : AHeap} (hj : 15 < vs.length) : M0 127 (.val (.ref b)::[]) [] (H ++ (.object "RetimingEngine", vs)::r) Q = M0 135 (.val (.ref b)::[]) [] (H ++ (.object "RetimingEngine", vs.set 15 (.ref (b + (r.length + 1))))::(r ++ [(.array .int,List.replicate 32 (.int 0))])) Q:=w_iarr (n:=32) rfl hH hk (show decode kb0 127 = .ok (.aload_n 0,1) from by decide +kernel) rfl (show decode kb0 128 = .ok (.bipush 32,2) from by decide +kernel) (fun _ => rfl) (by decide) (show decode kb0 130 = .ok (.newarray .int,2) from by decide +kernel) rfl (by decide +kernel) (by decide) (by decide) rfl (show decode kb0 132 = .ok (.putfield 56,3) from by decide +kernel) pf0_56 hj
theorem pf0_59 : pfR tables_1 y0.cls y0.name 59 = some ("RetimingEngine", 16,.array .int):=by decide +kernel
theorem m0_135a (hH : H.length = b) (hk : 1≤b) {vs : List Value} {r : AHeap} (hj : 16 < vs.length) : M0 135 (.val (.ref b)::[]) [] (H ++ (.object "RetimingEngine", vs)::r) Q = M0 143 (.val (.ref b)::[]) [] (H ++ (.object "RetimingEngine", vs.set 16 (.ref (b + (r.length + 1))))::(r ++ [(.array .int,List.replicate 32 (.int 0))])) Q:=w_iarr (n:=32) rfl hH hk (show decode kb0 135 = .ok (.aload_n 0,1) from by decide +kernel) rfl (show decode kb0 136 = .ok (.bipush 32,2) from by decide +kernel) (fun _ => rfl) (by decide) (show decode kb0 138 = .ok (.newarray .int,2) from by decide +kernel) rfl (by decide +kernel) (by decide) (by decide) rfl (show decode kb0 140 = .ok (.putfield 59,3) from by decide +kernel) pf0_59 hj
theorem pf0_62 : pfR tables_1 y0.cls y0.name 62 = some ("RetimingEngine", 17,.array .int):=by decide +kernel
theorem m0_143a (hH : H.length = b) (hk : 1≤b) {vs : List Value} {r : AHeap} (hj : 17 < vs.length) : M0 143 (.val (.ref b)::[]) [] (H ++ (.object "RetimingEngine", vs)::r) Q = M0 152 (.val (.ref b)::[]) [] (H ++ (.object "RetimingEngine", vs.set 17 (.ref (b + (r.length + 1))))::(r ++ [(.array .int,List.replicate 1024 (.int 0))])) Q:=w_iarr (n:=1024) rfl hH hk (show decode kb0 143 = .ok (.aload_n 0,1) from by decide +kernel) rfl (show decode kb0 144 = .ok (.sipush 1024,3) from by decide +kernel) (fun _ => rfl) (by decide) (show decode kb0 147 = .ok (.newarray .int,2) from by decide +kernel) rfl (by decide +kernel) (by decide) (by decide) rfl (show decode kb0 149 = .ok (.putfield 62,3) from by decide +kernel) pf0_62 hj
def A0 : Nat→List Int32
  | 0 => List.replicate 32 0
  | 1 => List.replicate 32 0
  | 2 => List.replicate 32 0
  | 3 => List.replicate 64 0
  | 4 => List.replicate 64 0
  | 5 => List.replicate 64 0
  | 6 => List.replicate 64 0
  | 7 => List.replicate 32 0
  | 8 => List.replicate 64 0
  | 9 => List.replicate 1024 0
  | 10 => List.replicate 1024 0
  | 11 => List.replicate 1024 0
  | 12 => List.replicate 32 0
  | 13 => List.replicate 32 0
  | 14 => List.replicate 32 0
  | 15 => List.replicate 32 0
  | 16 => List.replicate 32 0
  | 17 => List.replicate 1024 0
  | _ => []
theorem A0l_0 : (A0 0).length = 32:=List.length_replicate
theorem A0g_0 (j : Int32) : getA (A0 0) j = 0:=getA_rep _ _
theorem A0l_1 : (A0 1).length = 32:=List.length_replicate
theorem A0g_1 (j : Int32) : getA (A0 1) j = 0:=getA_rep _ _
theorem A0l_2 : (A0 2).length = 32:=List.length_replicate
theorem A0g_2 (j : Int32) : getA (A0 2) j = 0:=getA_rep _ _
theorem A0l_3 : (A0 3).length = 64:=List.length_replicate
theorem A0g_3 (j : Int32) : getA (A0 3) j = 0:=getA_rep _ _
theorem A0l_4 : (A0 4).length = 64:=List.length_replicate
theorem A0g_4 (j : Int32) : getA (A0 4) j = 0:=getA_rep _ _
theorem A0l_5 : (A0 5).length = 64:=List.length_replicate
theorem A0g_5 (j : Int32) : getA (A0 5) j = 0:=getA_rep _ _
theorem A0l_6 : (A0 6).length = 64:=List.length_replicate
theorem A0g_6 (j : Int32) : getA (A0 6) j = 0:=getA_rep _ _
theorem A0l_7 : (A0 7).length = 32:=List.length_replicate
theorem A0g_7 (j : Int32) : getA (A0 7) j = 0:=getA_rep _ _
theorem A0l_8 : (A0 8).length = 64:=List.length_replicate
theorem A0g_8 (j : Int32) : getA (A0 8) j = 0:=getA_rep _ _
theorem A0l_9 : (A0 9).length = 1024:=List.length_replicate
theorem A0g_9 (j : Int32) : getA (A0 9) j = 0:=getA_rep _ _
theorem A0l_10 : (A0 10).length = 1024:=List.length_replicate
theorem A0g_10 (j : Int32) : getA (A0 10) j = 0:=getA_rep _ _
theorem A0l_11 : (A0 11).length = 1024:=List.length_replicate
theorem A0g_11 (j : Int32) : getA (A0 11) j = 0:=getA_rep _ _
theorem A0l_12 : (A0 12).length = 32:=List.length_replicate
theorem A0g_12 (j : Int32) : getA (A0 12) j = 0:=getA_rep _ _
theorem A0l_13 : (A0 13).length = 32:=List.length_replicate
theorem A0g_13 (j : Int32) : getA (A0 13) j = 0:=getA_rep _ _
theorem A0l_14 : (A0 14).length = 32:=List.length_replicate
theorem A0g_14 (j : Int32) : getA (A0 14) j = 0:=getA_rep _ _
theorem A0l_15 : (A0 15).length = 32:=List.length_replicate
theorem A0g_15 (j : Int32) : getA (A0 15) j = 0:=getA_rep _ _
theorem A0l_16 : (A0 16).length = 32:=List.length_replicate
theorem A0g_16 (j : Int32) : getA (A0 16) j = 0:=getA_rep _ _
theorem A0l_17 : (A0 17).length = 1024:=List.length_replicate
theorem A0g_17 (j : Int32) : getA (A0 17) j = 0:=getA_rep _ _
theorem own_ctor0 (hb : pre.length = b) (hk : 1≤b) : M0 0 (.val (.ref b)::[]) [] (pre ++ [(.object "RetimingEngine", D0)]) Q = M0 152 (.val (.ref b)::[]) [] (put b pre (fun _ => 0) A0 []) Q:=by
  rw [m0_0,m0_1,m0_4a hb hk (by (repeat rw [List.length_set]); exact Nat.le_of_ble_eq_true rfl),m0_12a hb hk (by (repeat rw [List.length_set]); exact Nat.le_of_ble_eq_true rfl),m0_20a hb hk (by (repeat rw [List.length_set]); exact Nat.le_of_ble_eq_true rfl),m0_28a hb hk (by (repeat rw [List.length_set]); exact Nat.le_of_ble_eq_true rfl),m0_36a hb hk (by (repeat rw [List.length_set]); exact Nat.le_of_ble_eq_true rfl),m0_44a hb hk (by (repeat rw [List.length_set]); exact Nat.le_of_ble_eq_true rfl),m0_52a hb hk (by (repeat rw [List.length_set]); exact Nat.le_of_ble_eq_true rfl),m0_60a hb hk (by (repeat rw [List.length_set]); exact Nat.le_of_ble_eq_true rfl),m0_68a hb hk (by (repeat rw [List.length_set]); exact Nat.le_of_ble_eq_true rfl),m0_76a hb hk (by (repeat rw [List.length_set]); exact Nat.le_of_ble_eq_true rfl),m0_85a hb hk (by (repeat rw [List.length_set]); exact Nat.le_of_ble_eq_true rfl),m0_94a hb hk (by (repeat rw [List.length_set]); exact Nat.le_of_ble_eq_true rfl),m0_103a hb hk (by (repeat rw [List.length_set]); exact Nat.le_of_ble_eq_true rfl),m0_111a hb hk (by (repeat rw [List.length_set]); exact Nat.le_of_ble_eq_true rfl),m0_119a hb hk (by (repeat rw [List.length_set]); exact Nat.le_of_ble_eq_true rfl),m0_127a hb hk (by (repeat rw [List.length_set]); exact Nat.le_of_ble_eq_true rfl),m0_135a hb hk (by (repeat rw [List.length_set]); exact Nat.le_of_ble_eq_true rfl),m0_143a hb hk (by (repeat rw [List.length_set]); exact Nat.le_of_ble_eq_true rfl)]
  simp only [put,pad_eq hb,objv,D0,A0,List.map_replicate,List.set_cons_succ,List.set_cons_zero,List.nil_append,List.cons_append,List.length_cons,List.length_nil,List.append_nil]
end Rules
/- methods: 0=RetimingEngine.<init>()V; 1=RetimingEngine.feedInput(I)Z; 2=RetimingEngine.addEdge(III)I; 3=RetimingEngine.addVertex(III)I; 4=RetimingEngine.retime()I; 5=RetimingEngine.topo(I)Z; 6=RetimingEngine.period(I)I; 7=RetimingEngine.computePairs()V; 8=RetimingEngine.relaxVia(I)V; 9=RetimingEngine.offer(III)V; 10=RetimingEngine.searchMin()I; 11=RetimingEngine.feasible(I)Z; 12=RetimingEngine.relaxPass(I)Z; 13=RetimingEngine.applyLags()V; 14=RetimingEngine.xOf(II)I; 15=RetimingEngine.reset()V; 16=RetimingEngine.edgeCount()I; 17=RetimingEngine.minPeriod()I; 18=RetimingEngine.originalPeriod()I; 19=RetimingEngine.retimedPeriod()I; 20=RetimingEngine.lag(I)I; 21=RetimingEngine.retimedRegs(I)I; 22=RetimingEngine.regWeight(II)I; 23=RetimingEngine.checkPair(II)I; 24=RetimingEngine.pathDelay(II)I; 25=RetimingEngine.output(II)I; 26=RetimingEngine.simulate()I; 27=RetimingEngine.clearInputs()V; 28=RetimingEngine.simCircuit(II)V; 29=RetimingEngine.evalVertex(III)I; 30=RetimingEngineL5.run(LRetimingEngine;[I)V; 31=RetimingEngineL5.same(LRetimingEngine;LRetimingEngine;)Z; 32=RetimingEngineL5.law([I)Z -/
def nI (n : Nat) : Int32:=Nat.toInt32 n
theorem nI_int {n : Nat} (h : n < 2147483648) : (nI n).toInt = n:=len_toInt h
theorem nI_cl {n : Nat} (h : n < 2147483648) : (nI n).toNatClampNeg = n:=by rw [toNat_eq,nI_int h]; rfl
theorem nI_add (a c : Nat) : nI a + nI c = nI (a + c):=(Int32.ofNat_add a c).symm
theorem nI_1 (a : Nat) : nI a + 1 = nI (a + 1):=nI_add a 1
theorem nI_sub {a c : Nat} (h : c≤a) : nI a - nI c = nI (a - c):=by
  have e : nI a = nI (a - c) + nI c:=by rw [nI_add,Nat.sub_add_cancel h]
  rw [e,Int32.add_sub_cancel]
theorem nI_32 (v : Nat) : nI v * 32 = nI (v * 32):=(Int32.ofNat_mul v 32).symm
theorem nI_lt {a c : Nat} (ha : a < 2147483648) (hc : c < 2147483648) : nI a < nI c ↔ a < c:=by
  rw [lt_i,nI_int ha,nI_int hc]
  omega
theorem nI_nn {a : Nat} (ha : a < 2147483648) : ¬ nI a < 0:=by
  rw [nn_i,nI_int ha]
  omega
theorem nI_inj {a c : Nat} (ha : a < 2147483648) (hc : c < 2147483648) : nI a = nI c ↔ a = c:=by
  constructor
  · intro h
    have:=congrArg Int32.toInt h
    rw [nI_int ha,nI_int hc] at this
    omega
  · intro h; rw [h]
theorem nI_ne {a c : Nat} (ha : a < 2147483648) (hc : c < 2147483648) (h : a ≠ c) : ¬ nI a = nI c:=fun e => h ((nI_inj ha hc).mp e)
theorem nI_in {l : List Int32} {i : Nat} (h : i < l.length) (hl : l.length≤4096) : inB (nI i) l:=by
  rw [inB_iff,nI_int (by omega)]
  omega
theorem lT {a c : Nat} (h : a < c) (hc : c < 2147483648) : (nI a < nI c) = True:=eq_true ((nI_lt (by omega) hc).mpr h)
theorem lF {a c : Nat} (h : c≤a) (ha : a < 2147483648) : (nI a < nI c) = False:=eq_false (fun q => by rw [nI_lt ha (by omega)] at q; omega)
theorem cf_set {l : List Int32} {i j : Nat} {x : Int32} (hj : j < l.length) (hl : l.length≤4096) (hi : i < 4096) : getA (setA l (nI j) x) (nI i) = if i = j then x else getA l (nI i):=by
  rw [getA_set2,nI_cl (by omega),nI_cl (by omega)]
  simp [hj]
def CF (l : List Int32) (f : Nat→Int32) (k : Nat) : Prop:=∀ i,i < k→getA l (nI i) = f i
def CN (l : List Int32) (f : Nat→Nat) (k : Nat) : Prop:=∀ i,i < k→getA l (nI i) = nI (f i)
section Cells
variable {l : List Int32} {f : Nat→Int32} {g : Nat→Nat} {k j w : Nat} {x : Int32}
theorem CF_set (h : CF l f k) (hj : j < l.length) (hl : l.length≤4096) (hk : k≤4096) : CF (setA l (nI j) x) (ou f j x) k:=by
  intro i hi
  rw [cf_set hj hl (by omega),ou_a]
  split
  · rfl
  · exact h i hi
theorem CF_push (h : CF l f k) (hk : k < l.length) (hl : l.length≤4096) : CF (setA l (nI k) x) (ou f k x) (k + 1):=by
  intro i hi
  rw [cf_set hk hl (by omega),ou_a]
  split
  · rfl
  · exact h i (by omega)
theorem CN_set (h : CN l g k) (hj : j < l.length) (hl : l.length≤4096) (hk : k≤4096) : CN (setA l (nI j) (nI w)) (ou g j w) k:=by
  intro i hi
  rw [cf_set hj hl (by omega),ou_a]
  split
  · rfl
  · exact h i hi
theorem CN_push (h : CN l g k) (hk : k < l.length) (hl : l.length≤4096) : CN (setA l (nI k) (nI w)) (ou g k w) (k + 1):=by
  intro i hi
  rw [cf_set hk hl (by omega),ou_a]
  split
  · rfl
  · exact h i (by omega)
end Cells
theorem okS_n (n : Nat) : okS (.val (.int (nI n))):=okS_i _
def LN (A : Nat→List Int32) : Prop:=∀ i,(A i).length = (A0 i).length
theorem LN_ou {A : Nat→List Int32} {j : Nat} {l : List Int32} (h : LN A) (hl : l.length = (A0 j).length) : LN (ou A j l):=len_ou h hl
theorem LN_set {A : Nat→List Int32} {j : Nat} {x v : Int32} (h : LN A) : LN (ou A j (setA (A j) x v)):=LN_ou h (by rw [setA_len]; exact h _)
theorem ln0 {A : Nat→List Int32} (h : LN A) : (A 0).length = 32:=(h 0).trans A0l_0
theorem in0 {A : Nat→List Int32} {i : Nat} (h : LN A) (hi : i < 32) : inB (nI i) (A 0):=nI_in (by rw [ln0 h]; exact hi) (by rw [ln0 h]; decide)
theorem ln1 {A : Nat→List Int32} (h : LN A) : (A 1).length = 32:=(h 1).trans A0l_1
theorem in1 {A : Nat→List Int32} {i : Nat} (h : LN A) (hi : i < 32) : inB (nI i) (A 1):=nI_in (by rw [ln1 h]; exact hi) (by rw [ln1 h]; decide)
theorem ln2 {A : Nat→List Int32} (h : LN A) : (A 2).length = 32:=(h 2).trans A0l_2
theorem in2 {A : Nat→List Int32} {i : Nat} (h : LN A) (hi : i < 32) : inB (nI i) (A 2):=nI_in (by rw [ln2 h]; exact hi) (by rw [ln2 h]; decide)
theorem ln3 {A : Nat→List Int32} (h : LN A) : (A 3).length = 64:=(h 3).trans A0l_3
theorem in3 {A : Nat→List Int32} {i : Nat} (h : LN A) (hi : i < 64) : inB (nI i) (A 3):=nI_in (by rw [ln3 h]; exact hi) (by rw [ln3 h]; decide)
theorem ln4 {A : Nat→List Int32} (h : LN A) : (A 4).length = 64:=(h 4).trans A0l_4
theorem in4 {A : Nat→List Int32} {i : Nat} (h : LN A) (hi : i < 64) : inB (nI i) (A 4):=nI_in (by rw [ln4 h]; exact hi) (by rw [ln4 h]; decide)
theorem ln5 {A : Nat→List Int32} (h : LN A) : (A 5).length = 64:=(h 5).trans A0l_5
theorem in5 {A : Nat→List Int32} {i : Nat} (h : LN A) (hi : i < 64) : inB (nI i) (A 5):=nI_in (by rw [ln5 h]; exact hi) (by rw [ln5 h]; decide)
theorem ln6 {A : Nat→List Int32} (h : LN A) : (A 6).length = 64:=(h 6).trans A0l_6
theorem in6 {A : Nat→List Int32} {i : Nat} (h : LN A) (hi : i < 64) : inB (nI i) (A 6):=nI_in (by rw [ln6 h]; exact hi) (by rw [ln6 h]; decide)
theorem ln7 {A : Nat→List Int32} (h : LN A) : (A 7).length = 32:=(h 7).trans A0l_7
theorem in7 {A : Nat→List Int32} {i : Nat} (h : LN A) (hi : i < 32) : inB (nI i) (A 7):=nI_in (by rw [ln7 h]; exact hi) (by rw [ln7 h]; decide)
theorem ln8 {A : Nat→List Int32} (h : LN A) : (A 8).length = 64:=(h 8).trans A0l_8
theorem in8 {A : Nat→List Int32} {i : Nat} (h : LN A) (hi : i < 64) : inB (nI i) (A 8):=nI_in (by rw [ln8 h]; exact hi) (by rw [ln8 h]; decide)
theorem ln9 {A : Nat→List Int32} (h : LN A) : (A 9).length = 1024:=(h 9).trans A0l_9
theorem in9 {A : Nat→List Int32} {i : Nat} (h : LN A) (hi : i < 1024) : inB (nI i) (A 9):=nI_in (by rw [ln9 h]; exact hi) (by rw [ln9 h]; decide)
theorem ln10 {A : Nat→List Int32} (h : LN A) : (A 10).length = 1024:=(h 10).trans A0l_10
theorem in10 {A : Nat→List Int32} {i : Nat} (h : LN A) (hi : i < 1024) : inB (nI i) (A 10):=nI_in (by rw [ln10 h]; exact hi) (by rw [ln10 h]; decide)
theorem ln11 {A : Nat→List Int32} (h : LN A) : (A 11).length = 1024:=(h 11).trans A0l_11
theorem in11 {A : Nat→List Int32} {i : Nat} (h : LN A) (hi : i < 1024) : inB (nI i) (A 11):=nI_in (by rw [ln11 h]; exact hi) (by rw [ln11 h]; decide)
theorem ln12 {A : Nat→List Int32} (h : LN A) : (A 12).length = 32:=(h 12).trans A0l_12
theorem in12 {A : Nat→List Int32} {i : Nat} (h : LN A) (hi : i < 32) : inB (nI i) (A 12):=nI_in (by rw [ln12 h]; exact hi) (by rw [ln12 h]; decide)
theorem ln13 {A : Nat→List Int32} (h : LN A) : (A 13).length = 32:=(h 13).trans A0l_13
theorem in13 {A : Nat→List Int32} {i : Nat} (h : LN A) (hi : i < 32) : inB (nI i) (A 13):=nI_in (by rw [ln13 h]; exact hi) (by rw [ln13 h]; decide)
theorem ln14 {A : Nat→List Int32} (h : LN A) : (A 14).length = 32:=(h 14).trans A0l_14
theorem in14 {A : Nat→List Int32} {i : Nat} (h : LN A) (hi : i < 32) : inB (nI i) (A 14):=nI_in (by rw [ln14 h]; exact hi) (by rw [ln14 h]; decide)
theorem ln15 {A : Nat→List Int32} (h : LN A) : (A 15).length = 32:=(h 15).trans A0l_15
theorem in15 {A : Nat→List Int32} {i : Nat} (h : LN A) (hi : i < 32) : inB (nI i) (A 15):=nI_in (by rw [ln15 h]; exact hi) (by rw [ln15 h]; decide)
theorem ln16 {A : Nat→List Int32} (h : LN A) : (A 16).length = 32:=(h 16).trans A0l_16
theorem in16 {A : Nat→List Int32} {i : Nat} (h : LN A) (hi : i < 32) : inB (nI i) (A 16):=nI_in (by rw [ln16 h]; exact hi) (by rw [ln16 h]; decide)
theorem ln17 {A : Nat→List Int32} (h : LN A) : (A 17).length = 1024:=(h 17).trans A0l_17
theorem in17 {A : Nat→List Int32} {i : Nat} (h : LN A) (hi : i < 1024) : inB (nI i) (A 17):=nI_in (by rw [ln17 h]; exact hi) (by rw [ln17 h]; decide)
/-! the engine as a plain model: arrays as functions -/
def tpI (x : Nat→Int32) (dst : Nat→Nat) : Nat→Nat→(Nat→Int32)→(Nat→Int32)
  | 0,_,d => d
  | r + 1,e,d => tpI x dst r (e + 1) (if x e = 0 then ou d (dst e) (d (dst e) + 1) else d)
abbrev TQ : Type:=(Nat→Nat) × Nat
def tpQ (d : Nat→Int32) : Nat→Nat→TQ→TQ
  | 0,_,q => q
  | r + 1,v,q => tpQ d r (v + 1) (if d v = 0∧q.2 < 32 then (ou q.1 q.2 v,q.2 + 1) else q)
abbrev TS : Type:=(Nat→Int32) × TQ
/-- one edge, seen from u -/
def tp1 (x : Nat→Int32) (src dst : Nat→Nat) (u e : Nat) (s : TS) : TS :=
  if src e = u∧x e = 0 then (ou s.1 (dst e) (s.1 (dst e) - 1),if s.1 (dst e) - 1 = 0∧s.2.2 < 32 then (ou s.2.1 s.2.2 (dst e),s.2.2 + 1) else s.2) else s
def tpE (x : Nat→Int32) (src dst : Nat→Nat) (u : Nat) : Nat→Nat→TS→TS
  | 0,_,s => s
  | r + 1,e,s => tpE x src dst u r (e + 1) (tp1 x src dst u e s)
def tpH (x : Nat→Int32) (src dst : Nat→Nat) (m : Nat) : Nat→Nat→TS→TS
  | 0,_,s => s
  | f + 1,h,s => if h < s.2.2 then tpH x src dst m f (h + 1) (tpE x src dst (s.2.1 h) m 0 s) else s
def topo (n m : Nat) (x : Nat→Int32) (src dst : Nat→Nat) (o : Nat→Nat) : TQ :=
  (tpH x src dst m 32 0 (tpI x dst m 0 (fun _ => 0),tpQ (tpI x dst m 0 (fun _ => 0)) n 0 (o,0))).2
/-- period -/
def peE (x vdel arr : Nat→Int32) (src dst : Nat→Nat) (v : Nat) : Nat→Nat→Int32→Int32
  | 0,_,a => a
  | r + 1,e,a => peE x vdel arr src dst v r (e + 1) (if dst e = v∧x e = 0 then (if a < arr (src e) + vdel v then arr (src e) + vdel v else a) else a)
def peI (m : Nat) (x vdel : Nat→Int32) (src dst o : Nat→Nat) : Nat→Nat→(Nat→Int32) × Int32→(Nat→Int32) × Int32
  | 0,_,s => s
  | r + 1,i,s => peI m x vdel src dst o r (i + 1) (ou s.1 (o i) (peE x vdel s.1 src dst (o i) m 0 (vdel (o i))),if s.2 < peE x vdel s.1 src dst (o i) m 0 (vdel (o i)) then peE x vdel s.1 src dst (o i) m 0 (vdel (o i)) else s.2)
/-- pairs: reach, wt, dd at i * 32 + j -/
abbrev PR : Type:=(Nat→Bool) × (Nat→Int32) × (Nat→Int32)
def off (i : Nat) (w y : Int32) (r : PR) : PR :=
  if r.1 i = false ∨ w < r.2.1 i ∨ (w = r.2.1 i∧r.2.2 i < y) then (ou r.1 i true,ou r.2.1 i w,ou r.2.2 i y) else r
def cpD : Nat→Nat→PR→PR
  | 0,_,r => r
  | k + 1,i,r => cpD k (i + 1) (ou r.1 (i * 32 + i) true,ou r.2.1 (i * 32 + i) 0,ou r.2.2 (i * 32 + i) 0)
def cpE (reg vdel : Nat→Int32) (src dst : Nat→Nat) : Nat→Nat→PR→PR
  | 0,_,r => r
  | k + 1,e,r => cpE reg vdel src dst k (e + 1) (off (src e * 32 + dst e) (reg e) (vdel (src e)) r)
def rvJ (k i : Nat) : Nat→Nat→PR→PR
  | 0,_,r => r
  | c + 1,j,r => rvJ k i c (j + 1) (if r.1 (k * 32 + j) = true then off (i * 32 + j) (r.2.1 (i * 32 + k) + r.2.1 (k * 32 + j)) (r.2.2 (i * 32 + k) + r.2.2 (k * 32 + j)) r else r)
def rvI (n k : Nat) : Nat→Nat→PR→PR
  | 0,_,r => r
  | c + 1,i,r => rvI n k c (i + 1) (if r.1 (i * 32 + k) = true then rvJ k i n 0 r else r)
def cpV (n : Nat) : Nat→Nat→PR→PR
  | 0,_,r => r
  | c + 1,k,r => cpV n c (k + 1) (rvI n k n 0 r)
def pairs (n m : Nat) (reg vdel : Nat→Int32) (src dst : Nat→Nat) : PR:=cpV n n 0 (cpE reg vdel src dst m 0 (cpD n 0 (fun _ => false,fun _ => 0,fun _ => 0)))
/-- one pass: dist, changed -/
abbrev DC : Type:=(Nat→Int32) × Bool
def rpE (reg : Nat→Int32) (src dst : Nat→Nat) : Nat→Nat→DC→DC
  | 0,_,s => s
  | k + 1,e,s => rpE reg src dst k (e + 1) (if s.1 (dst e) + reg e < s.1 (src e) then (ou s.1 (src e) (s.1 (dst e) + reg e),true) else s)
def rpV (r : PR) (vdel : Nat→Int32) (c : Int32) (u : Nat) : Nat→Nat→DC→DC
  | 0,_,s => s
  | k + 1,v,s => rpV r vdel c u k (v + 1) (if r.1 (u * 32 + v) = true∧c < r.2.2 (u * 32 + v) + vdel v then (if s.1 v + r.2.1 (u * 32 + v) - 1 < s.1 u then (ou s.1 u (s.1 v + r.2.1 (u * 32 + v) - 1),true) else s) else s)
def rpU (n : Nat) (r : PR) (vdel : Nat→Int32) (c : Int32) : Nat→Nat→DC→DC
  | 0,_,s => s
  | k + 1,u,s => rpU n r vdel c k (u + 1) (rpV r vdel c u n 0 s)
def rpass (n m : Nat) (reg vdel : Nat→Int32) (src dst : Nat→Nat) (r : PR) (c : Int32) (d : Nat→Int32) : DC:=rpU n r vdel c n 0 (rpE reg src dst m 0 (d,false))
def feaL (n m : Nat) (reg vdel : Nat→Int32) (src dst : Nat→Nat) (r : PR) (c : Int32) : Nat→(Nat→Int32)→DC
  | 0,d => (d,false)
  | f + 1,d => if (rpass n m reg vdel src dst r c d).2 = true then feaL n m reg vdel src dst r c f (rpass n m reg vdel src dst r c d).1 else ((rpass n m reg vdel src dst r c d).1,true)
def feas (n m : Nat) (reg vdel : Nat→Int32) (src dst : Nat→Nat) (r : PR) (c : Int32) : DC:=feaL n m reg vdel src dst r c (n + 2) (fun _ => 0)
def smin (fe : Int32→Bool) : Nat→Int32→Int32→Int32
  | 0,lo,_ => lo
  | f + 1,lo,hi => if lo < hi then (if fe (lo + (hi - lo) / 2) = true then smin fe f lo (lo + (hi - lo) / 2) else smin fe f (lo + (hi - lo) / 2 + 1) hi) else lo
/-- value of a vertex -/
def evE (op : Int32) (x : Nat→Int32) (src dst : Nat→Nat) (sv : Nat→Int32) (v t : Nat) : Nat→Nat→Int32→Int32
  | 0,_,a => a
  | k + 1,e,a => evE op x src dst sv v t k (e + 1) (if dst e = v then (if op = 1 then a + (if nI t - x e < 0 then 0 else sv (src e * 32 + (nI t - x e).toNatClampNeg)) else if op = 2 then a ^^^ (if nI t - x e < 0 then 0 else sv (src e * 32 + (nI t - x e).toNatClampNeg)) else a &&& (if nI t - x e < 0 then 0 else sv (src e * 32 + (nI t - x e).toNatClampNeg))) else a)
def evV (m : Nat) (vop vk inp x : Nat→Int32) (src dst : Nat→Nat) (sv : Nat→Int32) (v t : Nat) : Int32:=if vop v = 0 then inp t else evE (vop v) x src dst sv v t m 0 (vk v)
def siI (m : Nat) (vop vk inp x : Nat→Int32) (src dst o : Nat→Nat) (t : Nat) : Nat→Nat→(Nat→Int32)→(Nat→Int32)
  | 0,_,sv => sv
  | k + 1,i,sv => siI m vop vk inp x src dst o t k (i + 1) (ou sv (o i * 32 + t) (evV m vop vk inp x src dst sv (o i) t))
/-- sval, outs -/
def siT (n m : Nat) (vop vk inp x : Nat→Int32) (src dst o : Nat→Nat) (c : Nat) : Nat→Nat→(Nat→Int32) × (Nat→Int32)→(Nat→Int32) × (Nat→Int32)
  | 0,_,s => s
  | k + 1,t,s => siT n m vop vk inp x src dst o c k (t + 1) (siI m vop vk inp x src dst o t n 0 s.1,ou s.2 (c * 32 + t) (siI m vop vk inp x src dst o t n 0 s.1 ((n - 1) * 32 + t)))
/-! Kahn's order -/
theorem PH : ∀ (n t : Nat) (o : Nat→Nat),(∀ i,i < t→o i < n)→(∀ i j,i < t→j < t→o i = o j→i = j)→t≤n:=by
  intro n
  induction n with
  | zero =>
    intro t o h1 h2
    rcases Nat.eq_zero_or_pos t with h | h
    · omega
    · exact absurd (h1 0 h) (by omega)
  | succ n ih =>
    intro t o h1 h2
    by_cases c : ∃ i,i < t∧o i = n
    · obtain ⟨k,hk,ek⟩:=c
      have:=ih (t - 1) (fun i => if i < k then o i else o (i + 1)) (fun i hi => by
        show (if i < k then o i else o (i + 1)) < n
        split
        · rename_i q
          have a:=h1 i (by omega)
          have : o i ≠ n:=fun z => by have:=h2 i k (by omega) hk (by rw [z,ek]); omega
          omega
        · rename_i q
          have a:=h1 (i + 1) (by omega)
          have : o (i + 1) ≠ n:=fun z => by have:=h2 (i + 1) k (by omega) hk (by rw [z,ek]); omega
          omega) (fun i j hi hj e => by
        have e' : (if i < k then o i else o (i + 1)) = (if j < k then o j else o (j + 1)):=e
        split at e' <;> split at e' <;> have:=h2 _ _ (by omega) (by omega) e' <;> omega)
      omega
    · have:=ih t o (fun i hi => by
        have a:=h1 i hi
        have : o i ≠ n:=fun z => c ⟨i,hi,z⟩
        omega) h2
      omega
theorem PHs {n : Nat} {o : Nat→Nat} (h1 : ∀ i,i < n→o i < n) (h2 : ∀ i j,i < n→j < n→o i = o j→i = j) (v : Nat) (hv : v < n) : ∃ j,j < n∧o j = v:=by
  by_cases c : ∃ j,j < n∧o j = v
  · exact c
  · have:=PH n (n + 1) (fun i => if i < n then o i else v) (fun i hi => by
      show (if i < n then o i else v) < n
      split
      · exact h1 i (by assumption)
      · exact hv) (fun i j hi hj e => by
      have e' : (if i < n then o i else v) = (if j < n then o j else v):=e
      split at e' <;> split at e'
      · exact h2 i j (by assumption) (by assumption) e'
      · exact absurd ⟨i,by assumption,e'⟩ c
      · exact absurd ⟨j,by assumption,e'.symm⟩ c
      · omega)
    omega
/-- how many numbers below k satisfy p -/
def cB (p : Nat→Bool) : Nat→Nat
  | 0 => 0
  | k + 1 => cB p k + (if p k = true then 1 else 0)
theorem cB_le (p : Nat→Bool) : ∀ k,cB p k≤k:=by
  intro k
  induction k with
  | zero => exact Nat.le_refl _
  | succ k ih => rw [cB]; split <;> omega
theorem cB_ext {p q : Nat→Bool} : ∀ k,(∀ i,i < k→p i = q i)→cB p k = cB q k:=by
  intro k
  induction k with
  | zero => intro _; rfl
  | succ k ih => intro h; rw [cB,cB,ih (fun i hi => h i (by omega)),h k (by omega)]
theorem cB_0 {p : Nat→Bool} : ∀ k,cB p k = 0→∀ i,i < k→p i = false:=by
  intro k
  induction k with
  | zero => intro _ i hi; omega
  | succ k ih =>
    intro h i hi
    rw [cB] at h
    by_cases e : i = k
    · subst e
      cases q : p i
      · rfl
      · rw [q] at h; simp at h
    · exact ih (by omega) i (by omega)
/-- one element less -/
theorem cB_rm {p : Nat→Bool} {e : Nat} : ∀ k,e < k→p e = true→cB p k = cB (fun i => p i && decide (i ≠ e)) k + 1:=by
  intro k
  induction k with
  | zero => intro h; omega
  | succ k ih =>
    intro h hp
    rw [cB,cB]
    by_cases c : k = e
    · subst c
      rw [hp,cB_ext (p:=p) (q:=fun i => p i && decide (i ≠ k)) k (fun i hi => by
        have : i ≠ k:=by omega
        simp [this])]
      simp
    · rw [ih (by omega) hp]
      have : (p k && decide (k ≠ e)) = p k:=by simp [c]
      simp only [this]
      omega
def inP (o : Nat→Nat) : Nat→Nat→Bool
  | 0,_ => false
  | h + 1,v => inP o h v || decide (o h = v)
theorem inP_iff {o : Nat→Nat} {v : Nat} : ∀ h,inP o h v = true ↔ ∃ j,j < h∧o j = v:=by
  intro h
  induction h with
  | zero => simp [inP]
  | succ h ih =>
    rw [inP,Bool.or_eq_true,ih,decide_eq_true_eq]
    constructor
    · rintro (⟨j,hj,e⟩ | e)
      · exact ⟨j,by omega,e⟩
      · exact ⟨h,by omega,e⟩
    · rintro ⟨j,hj,e⟩
      by_cases c : j = h
      · exact Or.inr (c ▸ e)
      · exact Or.inl ⟨j,by omega,e⟩
theorem inP_ou {o : Nat→Nat} {v t w : Nat} : ∀ h,h≤t→inP (ou o t w) h v = inP o h v:=by
  intro h
  induction h with
  | zero => intro _; rfl
  | succ h ih =>
    intro hh
    rw [inP,inP,ih (by omega),ou_a,if_neg (by omega)]
/-- edge e' into v still counts: h processed, u in hand up to e -/
def rem (x : Nat→Int32) (src dst o : Nat→Nat) (h u e v e' : Nat) : Bool:=decide (x e' = 0) && decide (dst e' = v) && !(inP o h (src e')) && !(decide (src e' = u) && decide (e' < e))
section Kahn
variable {n m : Nat} {x : Nat→Int32} {src dst : Nat→Nat}
def JK (n m : Nat) (x : Nat→Int32) (src dst : Nat→Nat) (h u e : Nat) (s : TS) : Prop :=
  s.2.2≤n∧(∀ i,i < s.2.2→s.2.1 i < n)∧(∀ i j,i < s.2.2→j < s.2.2→s.2.1 i = s.2.1 j→i = j) ∧
  (∀ v,v < n→s.1 v = nI (cB (rem x src dst s.2.1 h u e v) m)) ∧
  (∀ v,v < n→((∃ i,i < s.2.2∧s.2.1 i = v) ↔ cB (rem x src dst s.2.1 h u e v) m = 0)) ∧
  (∀ i e',i < s.2.2→e' < m→x e' = 0→dst e' = s.2.1 i→∃ j,j < i∧s.2.1 j = src e')
theorem JK_1 (hn : n≤32) (hm : m≤64) (hsd : ∀ e,e < m→src e < n∧dst e < n) {h e : Nat} {s : TS} (hh : h < s.2.2) (he : e < m) (hJ : JK n m x src dst h (s.2.1 h) e s) : JK n m x src dst h (s.2.1 h) (e + 1) (tp1 x src dst (s.2.1 h) e s)∧(tp1 x src dst (s.2.1 h) e s).2.1 h = s.2.1 h∧s.2.2≤(tp1 x src dst (s.2.1 h) e s).2.2:=by
  obtain ⟨j1,j2,j3,j4,j5,j6⟩:=hJ
  generalize hu : s.2.1 h = u at *
  by_cases c : src e = u∧x e = 0
  · have hnin : inP s.2.1 h u = false:=by
      cases q : inP s.2.1 h u
      · rfl
      · obtain ⟨j,hj,ej⟩:=(inP_iff h).mp q
        have:=j3 j h (by omega) hh (by rw [ej,hu])
        omega
    have hv:=(hsd e he).2
    generalize hd : dst e = v at *
    have re : rem x src dst s.2.1 h u e v e = true:=by
      unfold rem
      rw [c.1,hnin]
      simp [c.2,hd]
    have hR:=cB_rm (p:=rem x src dst s.2.1 h u e v) m he re
    have hext : ∀ w,w ≠ v→cB (rem x src dst s.2.1 h u (e + 1) w) m = cB (rem x src dst s.2.1 h u e w) m:=fun w hw => cB_ext m (fun i hi => by
      unfold rem
      by_cases z : i = e
      · subst z
        have : ¬ dst i = w:=fun q => hw (by rw [← q,hd])
        simp [this]
      · have : (i < e + 1) = (i < e):=propext (by omega)
        simp only [this])
    have hexv : cB (rem x src dst s.2.1 h u (e + 1) v) m = cB (fun i => rem x src dst s.2.1 h u e v i && decide (i ≠ e)) m:=cB_ext m (fun i hi => by
      unfold rem
      by_cases z : i = e
      · subst z
        simp [c.1]
      · have : (i < e + 1) = (i < e):=propext (by omega)
        simp [this,z])
    have hcm:=cB_le (rem x src dst s.2.1 h u (e + 1) v) m
    have dv : s.1 v - 1 = nI (cB (rem x src dst s.2.1 h u (e + 1) v) m):=by
      rw [j4 v hv,hR,hexv]
      exact nI_sub (c:=1) (by omega)
    have nin : ¬ ∃ i,i < s.2.2∧s.2.1 i = v:=fun q => by have:=(j5 v hv).mp q; omega
    by_cases z : cB (rem x src dst s.2.1 h u (e + 1) v) m = 0
    · have d0 : s.1 v - 1 = 0:=by rw [dv,z]; rfl
      have tn : s.2.2 + 1≤n:=PH n (s.2.2 + 1) (ou s.2.1 s.2.2 v) (fun i hi => by
        rw [ou_a]; split
        · exact hv
        · exact j2 i (by omega)) (fun i j hi hj q => by
        rw [ou_a,ou_a] at q
        split at q <;> split at q
        · omega
        · exact absurd ⟨j,by omega,q.symm⟩ nin
        · exact absurd ⟨i,by omega,q⟩ nin
        · exact j3 i j (by omega) (by omega) q)
      have eT : tp1 x src dst u e s = (ou s.1 v (s.1 v - 1),ou s.2.1 s.2.2 v,s.2.2 + 1):=by
        unfold tp1
        rw [if_pos c,hd,if_pos ⟨d0,by omega⟩]
      have rin : ∀ w e',rem x src dst (ou s.2.1 s.2.2 v) h u (e + 1) w e' = rem x src dst s.2.1 h u (e + 1) w e':=fun w e' => by
        unfold rem
        rw [inP_ou h (by omega)]
      have rcB : ∀ w,cB (rem x src dst (ou s.2.1 s.2.2 v) h u (e + 1) w) m = cB (rem x src dst s.2.1 h u (e + 1) w) m:=fun w => cB_ext m (fun i _ => rin w i)
      rw [eT]
      refine ⟨⟨tn,fun i hi => ?_,fun i j hi hj q => ?_,fun w hw => ?_,fun w hw => ?_,fun i e' hi he' hx hq => ?_⟩,?_,?_⟩
      · show ou s.2.1 s.2.2 v i < n
        have hi : i < s.2.2 + 1:=hi
        rw [ou_a]; split
        · exact hv
        · exact j2 i (by omega)
      · have hi : i < s.2.2 + 1:=hi
        have hj : j < s.2.2 + 1:=hj
        have q : ou s.2.1 s.2.2 v i = ou s.2.1 s.2.2 v j:=q
        rw [ou_a,ou_a] at q
        split at q <;> split at q
        · omega
        · exact absurd ⟨j,by omega,q.symm⟩ nin
        · exact absurd ⟨i,by omega,q⟩ nin
        · exact j3 i j (by omega) (by omega) q
      · show ou s.1 v (s.1 v - 1) w = nI (cB (rem x src dst (ou s.2.1 s.2.2 v) h u (e + 1) w) m)
        rw [rcB,ou_a]
        split
        · rename_i q; subst q; exact dv
        · rename_i q; rw [hext w q]; exact j4 w hw
      · show (∃ i,i < s.2.2 + 1∧ou s.2.1 s.2.2 v i = w) ↔ cB (rem x src dst (ou s.2.1 s.2.2 v) h u (e + 1) w) m = 0
        rw [rcB]
        by_cases q : w = v
        · subst q
          exact ⟨fun _ => z,fun _ => ⟨s.2.2,by omega,by rw [ou_a,if_pos rfl]⟩⟩
        · rw [hext w q,← j5 w hw]
          constructor
          · rintro ⟨i,hi,ei⟩
            rw [ou_a] at ei
            split at ei
            · exact absurd ei.symm q
            · exact ⟨i,by omega,ei⟩
          · rintro ⟨i,hi,ei⟩
            exact ⟨i,by omega,by rw [ou_a,if_neg (by omega)]; exact ei⟩
      · have hi : i < s.2.2 + 1:=hi
        have hq : dst e' = ou s.2.1 s.2.2 v i:=hq
        show ∃ j,j < i∧ou s.2.1 s.2.2 v j = src e'
        rw [ou_a] at hq
        split at hq
        · rename_i qi
          have r0:=cB_0 m z e' he'
          unfold rem at r0
          rw [hq] at r0
          simp [hx] at r0
          cases qq : inP s.2.1 h (src e')
          · have:=r0 qq
            exact ⟨h,by omega,by rw [ou_a,if_neg (by omega),hu]; exact this.1.symm⟩
          · obtain ⟨j,hj,ej⟩:=(inP_iff h).mp qq
            exact ⟨j,by omega,by rw [ou_a,if_neg (by omega)]; exact ej⟩
        · obtain ⟨j,hj,ej⟩:=j6 i e' (by omega) he' hx hq
          exact ⟨j,hj,by rw [ou_a,if_neg (by omega)]; exact ej⟩
      · show ou s.2.1 s.2.2 v h = u
        rw [ou_a,if_neg (by omega)]; exact hu
      · show s.2.2≤s.2.2 + 1
        omega
    · have d0 : ¬ s.1 v - 1 = 0:=by rw [dv]; exact nI_ne (c:=0) (by omega) (by decide) z
      have eT : tp1 x src dst u e s = (ou s.1 v (s.1 v - 1),s.2):=by
        unfold tp1
        rw [if_pos c,hd,if_neg (fun q => d0 q.1)]
      rw [eT]
      refine ⟨⟨j1,j2,j3,fun w hw => ?_,fun w hw => ?_,j6⟩,hu,Nat.le_refl _⟩
      · show ou s.1 v (s.1 v - 1) w = _
        rw [ou_a]
        split
        · rename_i q; subst q; exact dv
        · rename_i q; show s.1 w = nI (cB (rem x src dst s.2.1 h u (e + 1) w) m); rw [hext w q]; exact j4 w hw
      · show (∃ i,i < s.2.2∧s.2.1 i = w) ↔ cB (rem x src dst s.2.1 h u (e + 1) w) m = 0
        by_cases q : w = v
        · subst q
          exact ⟨fun q => absurd q nin,fun q => absurd q z⟩
        · rw [hext w q]; exact j5 w hw
  · have eT : tp1 x src dst u e s = s:=by
      unfold tp1
      rw [if_neg c]
    have rext : ∀ w,cB (rem x src dst s.2.1 h u (e + 1) w) m = cB (rem x src dst s.2.1 h u e w) m:=fun w => cB_ext m (fun i hi => by
      unfold rem
      by_cases z : i = e
      · subst z
        by_cases c1 : src i = u
        · have : ¬ x i = 0:=fun q => c ⟨c1,q⟩
          simp [this]
        · simp [c1]
      · have : (i < e + 1) = (i < e):=propext (by omega)
        simp only [this])
    rw [eT]
    refine ⟨⟨j1,j2,j3,fun w hw => ?_,fun w hw => ?_,j6⟩,hu,Nat.le_refl _⟩
    · rw [rext]; exact j4 w hw
    · rw [rext]; exact j5 w hw
theorem JK_E (hn : n≤32) (hm : m≤64) (hsd : ∀ e,e < m→src e < n∧dst e < n) {h u : Nat} : ∀ (r e : Nat) (s : TS),e + r = m→h < s.2.2→s.2.1 h = u→JK n m x src dst h u e s→JK n m x src dst h u m (tpE x src dst u r e s)∧(tpE x src dst u r e s).2.1 h = u∧h < (tpE x src dst u r e s).2.2:=by
  intro r
  induction r with
  | zero =>
    intro e s er hh hu hJ
    obtain rfl : e = m:=by omega
    exact ⟨hJ,hu,hh⟩
  | succ r ih =>
    intro e s er hh hu hJ
    subst hu
    have q:=JK_1 hn hm hsd hh (by omega) hJ
    rw [tpE]
    exact ih (e + 1) _ (by omega) (by omega) q.2.1 q.1
theorem JK_n {h u u' : Nat} {s : TS} (hu : s.2.1 h = u) (hJ : JK n m x src dst h u m s) : JK n m x src dst (h + 1) u' 0 s:=by
  obtain ⟨j1,j2,j3,j4,j5,j6⟩:=hJ
  have rext : ∀ w,cB (rem x src dst s.2.1 (h + 1) u' 0 w) m = cB (rem x src dst s.2.1 h u m w) m:=fun w => cB_ext m (fun i hi => by
    unfold rem
    rw [inP,hu]
    have e1 : decide (u = src i) = decide (src i = u):=decide_eq_decide.mpr ⟨Eq.symm,Eq.symm⟩
    rw [e1]
    cases inP s.2.1 h (src i) <;> simp [hi])
  refine ⟨j1,j2,j3,fun w hw => ?_,fun w hw => ?_,j6⟩
  · rw [rext]; exact j4 w hw
  · rw [rext]; exact j5 w hw
/-- an order: within n, no vertex twice, sources of register-free edges ahead -/
def KO (n m : Nat) (x : Nat→Int32) (src dst : Nat→Nat) (q : TQ) : Prop :=
  q.2≤n∧(∀ i,i < q.2→q.1 i < n)∧(∀ i j,i < q.2→j < q.2→q.1 i = q.1 j→i = j)∧(∀ i e',i < q.2→e' < m→x e' = 0→dst e' = q.1 i→∃ j,j < i∧q.1 j = src e')
theorem JK_H (hn : n≤32) (hm : m≤64) (hsd : ∀ e,e < m→src e < n∧dst e < n) : ∀ (f h u : Nat) (s : TS),JK n m x src dst h u 0 s→KO n m x src dst (tpH x src dst m f h s).2:=by
  intro f
  induction f with
  | zero =>
    intro h u s hJ
    exact ⟨hJ.1,hJ.2.1,hJ.2.2.1,hJ.2.2.2.2.2⟩
  | succ f ih =>
    intro h u s hJ
    rw [tpH]
    split
    · rename_i hh
      have e0 : JK n m x src dst h (s.2.1 h) 0 s:=by
        obtain ⟨j1,j2,j3,j4,j5,j6⟩:=hJ
        have rext : ∀ w,cB (rem x src dst s.2.1 h (s.2.1 h) 0 w) m = cB (rem x src dst s.2.1 h u 0 w) m:=fun w => cB_ext m (fun i hi => by unfold rem; simp)
        refine ⟨j1,j2,j3,fun w hw => ?_,fun w hw => ?_,j6⟩
        · rw [rext]; exact j4 w hw
        · rw [rext]; exact j5 w hw
      have q:=JK_E hn hm hsd m 0 s (by omega) hh rfl e0
      exact ih (h + 1) 0 _ (JK_n q.2.1 q.1)
    · exact ⟨hJ.1,hJ.2.1,hJ.2.2.1,hJ.2.2.2.2.2⟩
theorem tpI_c (hm : m≤64) {w : Nat} : ∀ (r e : Nat) (d : Nat→Int32),e + r = m→d w = nI (cB (fun i => decide (x i = 0) && decide (dst i = w)) e)→tpI x dst r e d w = nI (cB (fun i => decide (x i = 0) && decide (dst i = w)) m):=by
  intro r
  induction r with
  | zero =>
    intro e d er h
    obtain rfl : e = m:=by omega
    exact h
  | succ r ih =>
    intro e d er h
    rw [tpI]
    refine ih (e + 1) _ (by omega) ?_
    rw [cB]
    by_cases c : x e = 0
    · rw [if_pos c,ou_a]
      by_cases z : w = dst e
      · rw [if_pos z,← z,h,nI_1]
        simp [c,z]
      · have z' : ¬ dst e = w:=fun q => z q.symm
        rw [if_neg z,h]
        simp [z']
    · rw [if_neg c,h]
      simp [c]
theorem tpQ_c (hn : n≤32) {d : Nat→Int32} : ∀ (r v : Nat) (q : TQ),v + r = n→q.2≤v→(∀ i,i < q.2→q.1 i < v)→(∀ i j,i < q.2→j < q.2→q.1 i = q.1 j→i = j)→(∀ w,w < v→((∃ i,i < q.2∧q.1 i = w) ↔ d w = 0)) →
    (tpQ d r v q).2≤n∧(∀ i,i < (tpQ d r v q).2→(tpQ d r v q).1 i < n)∧(∀ i j,i < (tpQ d r v q).2→j < (tpQ d r v q).2→(tpQ d r v q).1 i = (tpQ d r v q).1 j→i = j)∧(∀ w,w < n→((∃ i,i < (tpQ d r v q).2∧(tpQ d r v q).1 i = w) ↔ d w = 0)):=by
  intro r
  induction r with
  | zero =>
    intro v q e h1 h2 h3 h4
    obtain rfl : v = n:=by omega
    exact ⟨h1,h2,h3,h4⟩
  | succ r ih =>
    intro v q e h1 h2 h3 h4
    rw [tpQ]
    by_cases c : d v = 0
    · rw [if_pos ⟨c,by omega⟩]
      refine ih (v + 1) (ou q.1 q.2 v,q.2 + 1) (by omega) (by show q.2 + 1≤v + 1; omega) (fun i hi => ?_) (fun i j hi hj z => ?_) (fun w hw => ?_)
      · have hi : i < q.2 + 1:=hi
        show ou q.1 q.2 v i < v + 1
        rw [ou_a]; split
        · omega
        · have:=h2 i (by omega); omega
      · have hi : i < q.2 + 1:=hi
        have hj : j < q.2 + 1:=hj
        have z : ou q.1 q.2 v i = ou q.1 q.2 v j:=z
        rw [ou_a,ou_a] at z
        split at z <;> split at z
        · omega
        · have:=h2 j (by omega); omega
        · have:=h2 i (by omega); omega
        · exact h3 i j (by omega) (by omega) z
      · show (∃ i,i < q.2 + 1∧ou q.1 q.2 v i = w) ↔ _
        by_cases y : w = v
        · subst y
          exact ⟨fun _ => c,fun _ => ⟨q.2,by omega,by rw [ou_a,if_pos rfl]⟩⟩
        · rw [← h4 w (by omega)]
          constructor
          · rintro ⟨i,hi,ei⟩
            rw [ou_a] at ei
            split at ei
            · exact absurd ei.symm y
            · exact ⟨i,by omega,ei⟩
          · rintro ⟨i,hi,ei⟩
            exact ⟨i,by omega,by rw [ou_a,if_neg (by omega)]; exact ei⟩
    · rw [if_neg (fun q => c q.1)]
      refine ih (v + 1) q (by omega) (by omega) (fun i hi => by have:=h2 i hi; omega) h3 (fun w hw => ?_)
      by_cases y : w = v
      · subst y
        exact ⟨fun ⟨i,hi,ei⟩ => absurd (h2 i hi) (by omega),fun q => absurd q c⟩
      · exact h4 w (by omega)
theorem topo_KO (hn : n≤32) (hm : m≤64) (hsd : ∀ e,e < m→src e < n∧dst e < n) (o : Nat→Nat) : KO n m x src dst (topo n m x src dst o):=by
  have hd : ∀ w,tpI x dst m 0 (fun _ => 0) w = nI (cB (fun i => decide (x i = 0) && decide (dst i = w)) m):=fun w => tpI_c hm m 0 _ (by omega) rfl
  have hr : ∀ (o' : Nat→Nat) w,cB (rem x src dst o' 0 0 0 w) m = cB (fun i => decide (x i = 0) && decide (dst i = w)) m:=fun o' w => cB_ext m (fun i hi => by unfold rem; simp [inP])
  obtain ⟨q1,q2,q3,q4⟩:=tpQ_c (d:=tpI x dst m 0 (fun _ => 0)) hn n 0 (o,0) (by omega) (Nat.le_refl _) (fun i hi => absurd hi (Nat.not_lt_zero _)) (fun i j hi => absurd hi (Nat.not_lt_zero _)) (fun w hw => absurd hw (by omega))
  unfold topo
  generalize hQ : tpQ (tpI x dst m 0 (fun _ => 0)) n 0 (o,0) = q at *
  have key : ∀ w,w < n→((∃ i,i < q.2∧q.1 i = w) ↔ cB (fun i => decide (x i = 0) && decide (dst i = w)) m = 0):=fun w hw => by
    rw [q4 w hw,hd]
    have:=cB_le (fun i => decide (x i = 0) && decide (dst i = w)) m
    exact nI_inj (c:=0) (by omega) (by decide)
  refine JK_H hn hm hsd 32 0 0 _ ⟨q1,q2,q3,fun v hv => ?_,fun v hv => ?_,fun i e' hi he' hx hq => ?_⟩
  · rw [hr]; exact hd v
  · rw [hr]; exact key v hv
  · have hq : dst e' = q.1 i:=hq
    have r0:=cB_0 m ((key (q.1 i) (q2 i hi)).mp ⟨i,hi,rfl⟩) e' he'
    simp [hx,hq] at r0
end Kahn
/-! period -/
section Per
variable {n m : Nat} {x vdel : Nat→Int32} {src dst : Nat→Nat}
theorem peE_c {arr : Nat→Int32} {v : Nat} {B : Int} (hB1 : B≤1000) (hv : 0≤(vdel v).toInt∧(vdel v).toInt≤15) (hB : ∀ e,e < m→dst e = v→x e = 0→0≤(arr (src e)).toInt∧(arr (src e)).toInt≤B) : ∀ (r e : Nat) (a : Int32),e + r = m→0≤a.toInt→a.toInt≤B + 15 →
    a.toInt≤(peE x vdel arr src dst v r e a).toInt∧(peE x vdel arr src dst v r e a).toInt≤B + 15∧∀ e',e≤e'→e' < m→dst e' = v→x e' = 0→(arr (src e')).toInt + (vdel v).toInt≤(peE x vdel arr src dst v r e a).toInt:=by
  intro r
  induction r with
  | zero =>
    intro e a er h0 h1
    exact ⟨Int.le_refl _,h1,fun e' q1 q2 => absurd q2 (by omega)⟩
  | succ r ih =>
    intro e a er h0 h1
    rw [peE]
    by_cases c : dst e = v∧x e = 0
    · rw [if_pos c]
      have hb:=hB e (by omega) c.1 c.2
      have es : (arr (src e) + vdel v).toInt = (arr (src e)).toInt + (vdel v).toInt:=add_i (by omega) (by omega)
      by_cases z : a < arr (src e) + vdel v
      · rw [if_pos z]
        rw [lt_i,es] at z
        obtain ⟨i1,i2,i3⟩:=ih (e + 1) (arr (src e) + vdel v) (by omega) (by omega) (by omega)
        refine ⟨by omega,i2,fun e' q1 q2 q3 q4 => ?_⟩
        by_cases w : e' = e
        · rw [w]; omega
        · exact i3 e' (by omega) q2 q3 q4
      · rw [if_neg z]
        rw [lt_i,es] at z
        obtain ⟨i1,i2,i3⟩:=ih (e + 1) a (by omega) h0 h1
        refine ⟨i1,i2,fun e' q1 q2 q3 q4 => ?_⟩
        by_cases w : e' = e
        · rw [w]; omega
        · exact i3 e' (by omega) q2 q3 q4
    · rw [if_neg c]
      obtain ⟨i1,i2,i3⟩:=ih (e + 1) a (by omega) h0 h1
      refine ⟨i1,i2,fun e' q1 q2 q3 q4 => ?_⟩
      by_cases w : e' = e
      · exact absurd ⟨w ▸ q3,w ▸ q4⟩ c
      · exact i3 e' (by omega) q2 q3 q4
def PI (n m : Nat) (x vdel : Nat→Int32) (src dst o : Nat→Nat) (i : Nat) (s : (Nat→Int32) × Int32) : Prop :=
  (∀ j,j < i→0≤(s.1 (o j)).toInt∧(s.1 (o j)).toInt≤15 * (j + 1)∧(vdel (o j)).toInt≤(s.1 (o j)).toInt∧(s.1 (o j)).toInt≤s.2.toInt) ∧
  (∀ e j,e < m→j < i→x e = 0→dst e = o j→(s.1 (src e)).toInt + (vdel (dst e)).toInt≤(s.1 (dst e)).toInt)∧0≤s.2.toInt∧s.2.toInt≤480
theorem peI_c (hn : n≤32) {o : Nat→Nat} (hvd : ∀ v,v < n→0≤(vdel v).toInt∧(vdel v).toInt≤15) (ho : ∀ i,i < n→o i < n) (hinj : ∀ i j,i < n→j < n→o i = o j→i = j) (htop : ∀ i e,i < n→e < m→x e = 0→dst e = o i→∃ j,j < i∧o j = src e) : ∀ (r i : Nat) (s : (Nat→Int32) × Int32),i + r = n→PI n m x vdel src dst o i s→PI n m x vdel src dst o n (peI m x vdel src dst o r i s):=by
  intro r
  induction r with
  | zero =>
    intro i s er h
    obtain rfl : i = n:=by omega
    exact h
  | succ r ih =>
    intro i s er h
    obtain ⟨h1,h2,h3,h4⟩:=h
    have hv:=hvd (o i) (ho i (by omega))
    rw [peI]
    have q:=peE_c (m:=m) (x:=x) (src:=src) (dst:=dst) (arr:=s.1) (v:=o i) (B:=15 * (i : Int)) (by omega) hv (fun e he hd hx => by
      obtain ⟨j,hj,ej⟩:=htop i e (by omega) he hx hd
      have:=h1 j hj
      rw [← ej]
      omega) m 0 (vdel (o i)) (by omega) hv.1 (by omega)
    generalize peE x vdel s.1 src dst (o i) m 0 (vdel (o i)) = a at *
    obtain ⟨q1,q2,q3⟩:=q
    have bb : s.2.toInt≤(if s.2 < a then a else s.2).toInt∧a.toInt≤(if s.2 < a then a else s.2).toInt∧(if s.2 < a then a else s.2).toInt≤480:=by
      by_cases z : s.2 < a
      · rw [if_pos z]; rw [lt_i] at z; omega
      · rw [if_neg z]; rw [lt_i] at z; omega
    generalize (if s.2 < a then a else s.2) = best at *
    have od : ∀ j,j < n→j ≠ i→ou s.1 (o i) a (o j) = s.1 (o j):=fun j hj hne => by
      rw [ou_a,if_neg (fun z => hne (hinj j i hj (by omega) z))]
    refine ih (i + 1) (ou s.1 (o i) a,best) (by omega) ⟨fun j hj => ?_,fun e j he hj hx hd => ?_,by show 0≤best.toInt; omega,bb.2.2⟩
    · show 0≤(ou s.1 (o i) a (o j)).toInt∧(ou s.1 (o i) a (o j)).toInt≤15 * (j + 1)∧(vdel (o j)).toInt≤(ou s.1 (o i) a (o j)).toInt∧(ou s.1 (o i) a (o j)).toInt≤best.toInt
      by_cases z : j = i
      · subst z
        rw [ou_a,if_pos rfl]
        omega
      · rw [od j (by omega) z]
        have:=h1 j (by omega)
        omega
    · show (ou s.1 (o i) a (src e)).toInt + (vdel (dst e)).toInt≤(ou s.1 (o i) a (dst e)).toInt
      obtain ⟨j',hj',ej'⟩:=htop j e (by omega) he hx hd
      rw [← ej',od j' (by omega) (by omega),ej',hd]
      by_cases z : j = i
      · subst z
        rw [ou_a,if_pos rfl]
        exact q3 e (by omega) he hd hx
      · rw [od j (by omega) z,← hd]
        exact h2 e j he (by omega) hx hd
/-- what the first period gives: delays arr, best -/
theorem per_c (hn : n≤32) {o : Nat→Nat} {arr : Nat→Int32} (hvd : ∀ v,v < n→0≤(vdel v).toInt∧(vdel v).toInt≤15) (ho : ∀ i,i < n→o i < n) (hinj : ∀ i j,i < n→j < n→o i = o j→i = j) (htop : ∀ i e,i < n→e < m→x e = 0→dst e = o i→∃ j,j < i∧o j = src e) (hsd : ∀ e,e < m→src e < n∧dst e < n) :
    (∀ v,v < n→0≤((peI m x vdel src dst o n 0 (arr,0)).1 v).toInt∧((peI m x vdel src dst o n 0 (arr,0)).1 v).toInt≤480∧(vdel v).toInt≤((peI m x vdel src dst o n 0 (arr,0)).1 v).toInt∧((peI m x vdel src dst o n 0 (arr,0)).1 v).toInt≤(peI m x vdel src dst o n 0 (arr,0)).2.toInt) ∧
    (∀ e,e < m→x e = 0→((peI m x vdel src dst o n 0 (arr,0)).1 (src e)).toInt + (vdel (dst e)).toInt≤((peI m x vdel src dst o n 0 (arr,0)).1 (dst e)).toInt)∧0≤(peI m x vdel src dst o n 0 (arr,0)).2.toInt∧(peI m x vdel src dst o n 0 (arr,0)).2.toInt≤480:=by
  obtain ⟨h1,h2,h3,h4⟩:=peI_c hn hvd ho hinj htop n 0 (arr,0) (by omega) ⟨fun j hj => absurd hj (by omega),fun e j _ hj => absurd hj (by omega),by show 0≤(0 : Int32).toInt; decide,by show (0 : Int32).toInt≤480; decide⟩
  refine ⟨fun v hv => ?_,fun e he hx => ?_,h3,h4⟩
  · obtain ⟨j,hj,ej⟩:=PHs ho hinj v hv
    have:=h1 j hj
    rw [ej] at this
    omega
  · obtain ⟨j,hj,ej⟩:=PHs ho hinj (dst e) (hsd e he).2
    exact h2 e j he hj hx ej.symm
end Per
/-! all pairs -/
theorem cB_mono {p q : Nat→Bool} : ∀ k,(∀ i,i < k→p i = true→q i = true)→cB p k≤cB q k:=by
  intro k
  induction k with
  | zero => intro _; exact Nat.le_refl _
  | succ k ih =>
    intro h
    rw [cB,cB]
    have:=ih (fun i hi => h i (by omega))
    by_cases c : p k = true
    · rw [if_pos c,if_pos (h k (by omega) c)]; omega
    · rw [if_neg c]; split <;> omega
theorem cB_dis {p q s : Nat→Bool} : ∀ k,(∀ i,i < k→p i = true→s i = true)→(∀ i,i < k→q i = true→s i = true)→(∀ i,i < k→p i = true→q i = true→False)→cB p k + cB q k≤cB s k:=by
  intro k
  induction k with
  | zero => intro _ _ _; exact Nat.le_refl _
  | succ k ih =>
    intro h1 h2 h3
    rw [cB,cB,cB]
    have:=ih (fun i hi => h1 i (by omega)) (fun i hi => h2 i (by omega)) (fun i hi => h3 i (by omega))
    by_cases c : p k = true
    · have c2 : ¬ q k = true:=fun z => h3 k (by omega) c z
      rw [if_pos c,if_neg c2,if_pos (h1 k (by omega) c)]; omega
    · by_cases c2 : q k = true
      · rw [if_neg c,if_pos c2,if_pos (h2 k (by omega) c2)]; omega
      · rw [if_neg c,if_neg c2]; split <;> omega
section Pairs
variable {n m : Nat} {reg vdel : Nat→Int32} {src dst : Nat→Nat} {φ : Nat→Int}
def PT (n : Nat) (φ : Nat→Int) (r : PR) : Prop:=∀ a b,a < n→b < n→r.1 (a * 32 + b) = true→0≤(r.2.1 (a * 32 + b)).toInt∧((r.2.1 (a * 32 + b)).toInt = 0→0≤(r.2.2 (a * 32 + b)).toInt∧(r.2.2 (a * 32 + b)).toInt≤φ b - φ a)
theorem ix_inj {a b i j : Nat} (hb : b < 32) (hj : j < 32) (h : a * 32 + b = i * 32 + j) : a = i∧b = j:=by omega
theorem PT_set {r : PR} {i j : Nat} {w y : Int32} (hn : n≤32) (hj : j < n) (h : PT n φ r) (h1 : 0≤w.toInt) (h2 : w.toInt = 0→0≤y.toInt∧y.toInt≤φ j - φ i) : PT n φ (ou r.1 (i * 32 + j) true,ou r.2.1 (i * 32 + j) w,ou r.2.2 (i * 32 + j) y):=by
  intro a b ha hb hr
  have hr : ou r.1 (i * 32 + j) true (a * 32 + b) = true:=hr
  show 0≤(ou r.2.1 (i * 32 + j) w (a * 32 + b)).toInt∧((ou r.2.1 (i * 32 + j) w (a * 32 + b)).toInt = 0→0≤(ou r.2.2 (i * 32 + j) y (a * 32 + b)).toInt∧(ou r.2.2 (i * 32 + j) y (a * 32 + b)).toInt≤φ b - φ a)
  rw [ou_a] at hr
  rw [ou_a,ou_a]
  by_cases z : a * 32 + b = i * 32 + j
  · obtain ⟨rfl,rfl⟩:=ix_inj (by omega) (by omega) z
    rw [if_pos z,if_pos z]
    exact ⟨h1,h2⟩
  · rw [if_neg z] at hr
    rw [if_neg z,if_neg z]
    exact h a b ha hb hr
theorem PT_off {r : PR} {i j : Nat} {w y : Int32} (hn : n≤32) (hj : j < n) (h : PT n φ r) (h1 : 0≤w.toInt) (h2 : w.toInt = 0→0≤y.toInt∧y.toInt≤φ j - φ i) : PT n φ (off (i * 32 + j) w y r):=by
  unfold off
  split
  · exact PT_set hn hj h h1 h2
  · exact h
/-- within round k: r0 the pairs ahead of it, S the pairs looked at -/
def MR (n k : Nat) (r0 : PR) (S : Nat→Nat→Prop) (r : PR) : Prop:=∀ a b,a < n→b < n →
  (r.1 (a * 32 + b) = true ↔ r0.1 (a * 32 + b) = true ∨ (S a b∧r0.1 (a * 32 + k) = true∧r0.1 (k * 32 + b) = true)) ∧
  (r0.1 (a * 32 + b) = true→(r.2.1 (a * 32 + b)).toInt≤(r0.2.1 (a * 32 + b)).toInt) ∧
  (¬ r0.1 (a * 32 + b) = true→r.1 (a * 32 + b) = true→(r.2.1 (a * 32 + b)).toInt = (r0.2.1 (a * 32 + k)).toInt + (r0.2.1 (k * 32 + b)).toInt) ∧
  ((a = k ∨ b = k)→r.2.1 (a * 32 + b) = r0.2.1 (a * 32 + b))
def W0 (n k : Nat) (r0 : PR) : Prop:=(∀ a b,a < n→b < n→r0.1 (a * 32 + b) = true→0≤(r0.2.1 (a * 32 + b)).toInt∧(r0.2.1 (a * 32 + b)).toInt≤1000)∧r0.1 (k * 32 + k) = true∧(r0.2.1 (k * 32 + k)).toInt = 0
theorem MR_w {k : Nat} {r0 r : PR} {S S' : Nat→Nat→Prop} (h : MR n k r0 S r) (hS : ∀ a b,a < n→b < n→r0.1 (a * 32 + k) = true→r0.1 (k * 32 + b) = true→(S a b ↔ S' a b)) : MR n k r0 S' r:=by
  intro a b ha hb
  obtain ⟨h1,h2,h3,h4⟩:=h a b ha hb
  refine ⟨h1.trans ⟨fun q => q.imp id (fun q => ⟨(hS a b ha hb q.2.1 q.2.2).mp q.1,q.2⟩),fun q => q.imp id (fun q => ⟨(hS a b ha hb q.2.1 q.2.2).mpr q.1,q.2⟩)⟩,h2,h3,h4⟩
theorem MR_k {k : Nat} {r0 r : PR} {S : Nat→Nat→Prop} (hk : k < n) (hW : W0 n k r0) (h : MR n k r0 S r) {a : Nat} (ha : a < n) : (r.1 (a * 32 + k) = true ↔ r0.1 (a * 32 + k) = true)∧(r.1 (k * 32 + a) = true ↔ r0.1 (k * 32 + a) = true):=by
  constructor
  · rw [(h a k ha hk).1]
    exact ⟨fun q => q.elim id (fun q => q.2.1),Or.inl⟩
  · rw [(h k a hk ha).1]
    exact ⟨fun q => q.elim id (fun q => q.2.2),Or.inl⟩
theorem MR_off {k i j : Nat} {r0 r : PR} {S : Nat→Nat→Prop} (hn : n≤32) (hk : k < n) (hi : i < n) (hj : j < n) (hW : W0 n k r0) (h : MR n k r0 S r) (r1 : r.1 (i * 32 + k) = true) (r2 : r.1 (k * 32 + j) = true) (y : Int32) :
    MR n k r0 (fun a b => S a b ∨ (a = i∧b = j)) (off (i * 32 + j) (r.2.1 (i * 32 + k) + r.2.1 (k * 32 + j)) y r)∧(r.2.1 (i * 32 + k) + r.2.1 (k * 32 + j)).toInt = (r.2.1 (i * 32 + k)).toInt + (r.2.1 (k * 32 + j)).toInt:=by
  have q1:=(MR_k hk hW h hi).1.mp r1
  have q2:=(MR_k hk hW h hj).2.mp r2
  have e1:=(h i k hi hk).2.2.2 (Or.inr rfl)
  have e2:=(h k j hk hj).2.2.2 (Or.inl rfl)
  have b1:=hW.1 i k hi hk q1
  have b2:=hW.1 k j hk hj q2
  rw [e1,e2]
  have es : (r0.2.1 (i * 32 + k) + r0.2.1 (k * 32 + j)).toInt = (r0.2.1 (i * 32 + k)).toInt + (r0.2.1 (k * 32 + j)).toInt:=add_i (by omega) (by omega)
  refine ⟨?_,es⟩
  intro a b ha hb
  obtain ⟨h1,h2,h3,h4⟩:=h a b ha hb
  unfold off
  by_cases z : a * 32 + b = i * 32 + j
  · obtain ⟨rfl,rfl⟩:=ix_inj (by omega) (by omega) z
    split
    · rename_i c
      show (ou r.1 _ true _ = true ↔ _)∧(_→(ou r.2.1 _ _ _).toInt≤_)∧(_→ou r.1 _ true _ = true→(ou r.2.1 _ _ _).toInt = _)∧(_→ou r.2.1 _ _ _ = _)
      rw [ou_a,if_pos rfl,ou_a,if_pos rfl]
      refine ⟨⟨fun _ => Or.inr ⟨Or.inr ⟨rfl,rfl⟩,q1,q2⟩,fun _ => rfl⟩,fun q => ?_,fun _ _ => es,fun q => ?_⟩
      · rcases c with c | c | c
        · rw [h1.mpr (Or.inl q)] at c; cases c
        · rw [lt_i] at c
          have:=h2 q
          omega
        · rw [c.1]
          exact h2 q
      · rcases q with rfl | rfl
        · apply Int32.toInt_inj.mp
          rw [es,hW.2.2]; omega
        · apply Int32.toInt_inj.mp
          rw [es,hW.2.2]; omega
    · rename_i c
      have hr : r.1 (a * 32 + b) = true:=by
        cases q : r.1 (a * 32 + b)
        · exact absurd (Or.inl q) c
        · rfl
      exact ⟨⟨fun _ => Or.inr ⟨Or.inr ⟨rfl,rfl⟩,q1,q2⟩,fun _ => hr⟩,h2,h3,h4⟩
  · have hS : (S a b ∨ (a = i∧b = j)) ↔ S a b:=⟨fun q => q.elim id (fun q => absurd (by rw [q.1,q.2]) z),Or.inl⟩
    show ((_ = true) ↔ _ ∨ ((S a b ∨ (a = i∧b = j))∧_∧_))∧_
    rw [hS]
    split
    · show (ou r.1 _ true _ = true ↔ _)∧(_→(ou r.2.1 _ _ _).toInt≤_)∧(_→ou r.1 _ true _ = true→(ou r.2.1 _ _ _).toInt = _)∧(_→ou r.2.1 _ _ _ = _)
      rw [ou_a,if_neg z,ou_a,if_neg z]
      exact ⟨h1,h2,h3,h4⟩
    · exact ⟨h1,h2,h3,h4⟩
theorem PT_via {k i j : Nat} {r : PR} (hn : n≤32) (hφ : ∀ v,v < n→0≤φ v∧φ v≤1000) (hk : k < n) (hi : i < n) (hj : j < n) (h : PT n φ r) (r1 : r.1 (i * 32 + k) = true) (r2 : r.1 (k * 32 + j) = true) (es : (r.2.1 (i * 32 + k) + r.2.1 (k * 32 + j)).toInt = (r.2.1 (i * 32 + k)).toInt + (r.2.1 (k * 32 + j)).toInt) : PT n φ (off (i * 32 + j) (r.2.1 (i * 32 + k) + r.2.1 (k * 32 + j)) (r.2.2 (i * 32 + k) + r.2.2 (k * 32 + j)) r):=by
  have p1:=h i k hi hk r1
  have p2:=h k j hk hj r2
  refine PT_off hn hj h (by omega) (fun q => ?_)
  have a1:=p1.2 (by omega)
  have a2:=p2.2 (by omega)
  have f1:=hφ i hi
  have f2:=hφ j hj
  have f3:=hφ k hk
  have e3 : (r.2.2 (i * 32 + k) + r.2.2 (k * 32 + j)).toInt = (r.2.2 (i * 32 + k)).toInt + (r.2.2 (k * 32 + j)).toInt:=add_i (by omega) (by omega)
  omega
theorem rvJ_c {k i : Nat} {r0 : PR} (hn : n≤32) (hφ : ∀ v,v < n→0≤φ v∧φ v≤1000) (hk : k < n) (hi : i < n) (hW : W0 n k r0) : ∀ (c j : Nat) (r : PR),j + c = n→r.1 (i * 32 + k) = true→MR n k r0 (fun a b => a < i ∨ (a = i∧b < j)) r→PT n φ r→MR n k r0 (fun a b => a < i + 1) (rvJ k i c j r)∧PT n φ (rvJ k i c j r):=by
  intro c
  induction c with
  | zero =>
    intro j r e hr hM hP
    exact ⟨MR_w hM (fun a b _ hb _ _ => by constructor <;> intro q <;> omega),hP⟩
  | succ c ih =>
    intro j r e hr hM hP
    rw [rvJ]
    by_cases z : r.1 (k * 32 + j) = true
    · rw [if_pos z]
      obtain ⟨m1,es⟩:=MR_off hn hk hi (by omega) hW hM hr z (r.2.2 (i * 32 + k) + r.2.2 (k * 32 + j))
      refine ih (j + 1) _ (by omega) ?_ (MR_w m1 (fun a b _ _ _ _ => by constructor <;> intro q <;> omega)) (PT_via hn hφ hk hi (by omega) hP hr z es)
      unfold off
      split
      · show ou r.1 _ true _ = true
        rw [ou_a]
        split
        · rfl
        · exact hr
      · exact hr
    · rw [if_neg z]
      refine ih (j + 1) r (by omega) hr (MR_w hM (fun a b ha hb q1 q2 => ?_)) hP
      have : ¬ b = j:=fun q => z ((MR_k hk hW hM (by omega)).2.mpr (q ▸ q2))
      constructor <;> intro q <;> omega
theorem rvI_c {k : Nat} {r0 : PR} (hn : n≤32) (hφ : ∀ v,v < n→0≤φ v∧φ v≤1000) (hk : k < n) (hW : W0 n k r0) : ∀ (c i : Nat) (r : PR),i + c = n→MR n k r0 (fun a b => a < i) r→PT n φ r→MR n k r0 (fun a b => a < n) (rvI n k c i r)∧PT n φ (rvI n k c i r):=by
  intro c
  induction c with
  | zero =>
    intro i r e hM hP
    obtain rfl : i = n:=by omega
    exact ⟨hM,hP⟩
  | succ c ih =>
    intro i r e hM hP
    rw [rvI]
    by_cases z : r.1 (i * 32 + k) = true
    · rw [if_pos z]
      obtain ⟨m1,p1⟩:=rvJ_c hn hφ hk (by omega : i < n) hW n 0 r (by omega) z (MR_w hM (fun a b _ _ _ _ => by constructor <;> intro q <;> omega)) hP
      exact ih (i + 1) _ (by omega) m1 p1
    · rw [if_neg z]
      refine ih (i + 1) r (by omega) (MR_w hM (fun a b ha hb q1 q2 => ?_)) hP
      have : ¬ a = i:=fun q => z ((MR_k hk hW hM (by omega)).1.mpr (q ▸ q1))
      constructor <;> intro q <;> omega
def FW (n k : Nat) (r : PR) : Prop :=
  (∀ a b,a < n→b < n→r.1 (a * 32 + b) = true→(r.2.1 (a * 32 + b)).toInt≤7 * (1 + (cB (fun l => r.1 (a * 32 + l) && r.1 (l * 32 + b)) k : Int))) ∧
  (∀ l a b,l < k→a < n→b < n→r.1 (a * 32 + l) = true→r.1 (l * 32 + b) = true→r.1 (a * 32 + b) = true) ∧
  (∀ a,a < n→r.1 (a * 32 + a) = true∧(r.2.1 (a * 32 + a)).toInt = 0)
theorem FW_step {k : Nat} {r0 : PR} (hn : n≤32) (hφ : ∀ v,v < n→0≤φ v∧φ v≤1000) (hk : k < n) (hF : FW n k r0) (hP : PT n φ r0) : FW n (k + 1) (rvI n k n 0 r0)∧PT n φ (rvI n k n 0 r0):=by
  obtain ⟨f1,f2,f3⟩:=hF
  have hW : W0 n k r0:=⟨fun a b ha hb hr => ⟨(hP a b ha hb hr).1,by
    have:=f1 a b ha hb hr
    have c:=cB_le (fun l => r0.1 (a * 32 + l) && r0.1 (l * 32 + b)) k
    omega⟩,(f3 k hk).1,(f3 k hk).2⟩
  obtain ⟨m1,p1⟩:=rvI_c hn hφ hk hW n 0 r0 (by omega) (fun a b ha hb => ⟨⟨Or.inl,fun q => q.elim id (fun q => absurd q.1 (by omega))⟩,fun _ => Int.le_refl _,fun q1 q2 => absurd q2 q1,fun _ => rfl⟩) hP
  refine ⟨?_,p1⟩
  generalize rvI n k n 0 r0 = r at *
  have R : ∀ a b,a < n→b < n→(r.1 (a * 32 + b) = true ↔ r0.1 (a * 32 + b) = true ∨ (r0.1 (a * 32 + k) = true∧r0.1 (k * 32 + b) = true)):=fun a b ha hb => (m1 a b ha hb).1.trans ⟨fun q => q.imp id (fun q => q.2),fun q => q.imp id (fun q => ⟨ha,q⟩)⟩
  have kk:=(f3 k hk).1
  refine ⟨fun a b ha hb hr => ?_,fun l a b hl ha hb q1 q2 => ?_,fun a ha => ?_⟩
  · by_cases z : r0.1 (a * 32 + b) = true
    · have w1:=(m1 a b ha hb).2.1 z
      have w2:=f1 a b ha hb z
      have c1 : cB (fun l => r0.1 (a * 32 + l) && r0.1 (l * 32 + b)) k≤cB (fun l => r.1 (a * 32 + l) && r.1 (l * 32 + b)) k:=cB_mono k (fun l hl q => by
        have q : (r0.1 (a * 32 + l) && r0.1 (l * 32 + b)) = true:=q
        rw [Bool.and_eq_true] at q
        show (r.1 (a * 32 + l) && r.1 (l * 32 + b)) = true
        rw [(R a l ha (by omega)).mpr (Or.inl q.1),(R l b (by omega) hb).mpr (Or.inl q.2)]; rfl)
      rw [cB]
      split <;> omega
    · have w1:=(m1 a b ha hb).2.2.1 z hr
      obtain ⟨ak,kb⟩:=((R a b ha hb).mp hr).resolve_left z
      have w2:=f1 a k ha hk ak
      have w3:=f1 k b hk hb kb
      have c1:=cB_dis (p:=fun l => r0.1 (a * 32 + l) && r0.1 (l * 32 + k)) (q:=fun l => r0.1 (k * 32 + l) && r0.1 (l * 32 + b)) (s:=fun l => r.1 (a * 32 + l) && r.1 (l * 32 + b)) k (fun l hl q => by
        have q : (r0.1 (a * 32 + l) && r0.1 (l * 32 + k)) = true:=q
        rw [Bool.and_eq_true] at q
        show (r.1 (a * 32 + l) && r.1 (l * 32 + b)) = true
        rw [(R a l ha (by omega)).mpr (Or.inl q.1),(R l b (by omega) hb).mpr (Or.inr ⟨q.2,kb⟩)]; rfl) (fun l hl q => by
        have q : (r0.1 (k * 32 + l) && r0.1 (l * 32 + b)) = true:=q
        rw [Bool.and_eq_true] at q
        show (r.1 (a * 32 + l) && r.1 (l * 32 + b)) = true
        rw [(R a l ha (by omega)).mpr (Or.inr ⟨ak,q.1⟩),(R l b (by omega) hb).mpr (Or.inl q.2)]; rfl) (fun l hl q q' => by
        have q : (r0.1 (a * 32 + l) && r0.1 (l * 32 + k)) = true:=q
        have q' : (r0.1 (k * 32 + l) && r0.1 (l * 32 + b)) = true:=q'
        rw [Bool.and_eq_true] at q q'
        exact z (f2 l a b hl ha hb q.1 q'.2))
      rw [cB]
      have sk : (r.1 (a * 32 + k) && r.1 (k * 32 + b)) = true:=by rw [(R a k ha hk).mpr (Or.inl ak),(R k b hk hb).mpr (Or.inl kb)]; rfl
      rw [if_pos sk]
      omega
  · rw [R a b ha hb]
    by_cases e : l = k
    · subst e
      rw [R a l ha hk] at q1
      rw [R l b hk hb] at q2
      exact Or.inr ⟨q1.elim id (fun q => q.1),q2.elim id (fun q => q.2)⟩
    · have hl' : l < k:=by omega
      rw [R a l ha (by omega)] at q1
      rw [R l b (by omega) hb] at q2
      rcases q1 with q1 | q1 <;> rcases q2 with q2 | q2
      · exact Or.inl (f2 l a b hl' ha hb q1 q2)
      · exact Or.inr ⟨f2 l a k hl' ha hk q1 q2.1,q2.2⟩
      · exact Or.inr ⟨q1.1,f2 l k b hl' hk hb q1.2 q2⟩
      · exact Or.inr ⟨q1.1,q2.2⟩
  · have h1:=(R a a ha ha).mpr (Or.inl (f3 a ha).1)
    have h2:=(m1 a a ha ha).2.1 (f3 a ha).1
    have h3:=(p1 a a ha ha h1).1
    have h4:=(f3 a ha).2
    exact ⟨h1,by omega⟩
theorem FW_all (hn : n≤32) (hφ : ∀ v,v < n→0≤φ v∧φ v≤1000) : ∀ (c k : Nat) (r : PR),k + c = n→FW n k r→PT n φ r→FW n n (cpV n c k r)∧PT n φ (cpV n c k r):=by
  intro c
  induction c with
  | zero =>
    intro k r e hF hP
    obtain rfl : k = n:=by omega
    exact ⟨hF,hP⟩
  | succ c ih =>
    intro k r e hF hP
    rw [cpV]
    obtain ⟨a,b⟩:=FW_step hn hφ (by omega : k < n) hF hP
    exact ih (k + 1) _ (by omega) a b
end Pairs
section Init
variable {n m : Nat} {reg vdel : Nat→Int32} {src dst : Nat→Nat} {φ : Nat→Int}
theorem cpD_c (hn : n≤32) : ∀ (c i : Nat) (r : PR),i + c = n→PT n φ r→(∀ a b,a < n→b < n→r.1 (a * 32 + b) = true→(r.2.1 (a * 32 + b)).toInt≤7)→(∀ a,a < i→r.1 (a * 32 + a) = true∧(r.2.1 (a * 32 + a)).toInt = 0) →
    PT n φ (cpD c i r)∧(∀ a b,a < n→b < n→(cpD c i r).1 (a * 32 + b) = true→((cpD c i r).2.1 (a * 32 + b)).toInt≤7)∧(∀ a,a < n→(cpD c i r).1 (a * 32 + a) = true∧((cpD c i r).2.1 (a * 32 + a)).toInt = 0):=by
  intro c
  induction c with
  | zero =>
    intro i r e hP h7 hd
    obtain rfl : i = n:=by omega
    exact ⟨hP,h7,hd⟩
  | succ c ih =>
    intro i r e hP h7 hd
    rw [cpD]
    refine ih (i + 1) _ (by omega) (PT_set hn (by omega) hP (by decide) (fun _ => ⟨by decide,by rw [Int.sub_self]; decide⟩)) (fun a b ha hb hr => ?_) (fun a ha => ?_)
    · have hr : ou r.1 (i * 32 + i) true (a * 32 + b) = true:=hr
      show (ou r.2.1 (i * 32 + i) 0 (a * 32 + b)).toInt≤7
      rw [ou_a] at hr ⊢
      split
      · decide
      · rename_i z
        rw [if_neg z] at hr
        exact h7 a b ha hb hr
    · show ou r.1 (i * 32 + i) true (a * 32 + a) = true∧(ou r.2.1 (i * 32 + i) 0 (a * 32 + a)).toInt = 0
      rw [ou_a,ou_a]
      by_cases z : a * 32 + a = i * 32 + i
      · rw [if_pos z,if_pos z]; exact ⟨rfl,rfl⟩
      · rw [if_neg z,if_neg z]; exact hd a (by omega)
theorem cpE_c (hn : n≤32) (hrg : ∀ e,e < m→0≤(reg e).toInt∧(reg e).toInt≤7) (hsd : ∀ e,e < m→src e < n∧dst e < n) (hφe : ∀ e,e < m→(reg e).toInt = 0→0≤(vdel (src e)).toInt∧(vdel (src e)).toInt≤φ (dst e) - φ (src e)) : ∀ (c e : Nat) (r : PR),e + c = m→PT n φ r→(∀ a b,a < n→b < n→r.1 (a * 32 + b) = true→(r.2.1 (a * 32 + b)).toInt≤7)→(∀ a,a < n→r.1 (a * 32 + a) = true∧(r.2.1 (a * 32 + a)).toInt = 0) →
    PT n φ (cpE reg vdel src dst c e r)∧(∀ a b,a < n→b < n→(cpE reg vdel src dst c e r).1 (a * 32 + b) = true→((cpE reg vdel src dst c e r).2.1 (a * 32 + b)).toInt≤7)∧(∀ a,a < n→(cpE reg vdel src dst c e r).1 (a * 32 + a) = true∧((cpE reg vdel src dst c e r).2.1 (a * 32 + a)).toInt = 0):=by
  intro c
  induction c with
  | zero => intro e r _ hP h7 hd; exact ⟨hP,h7,hd⟩
  | succ c ih =>
    intro e r er hP h7 hd
    have rg:=hrg e (by omega)
    have sd:=hsd e (by omega)
    rw [cpE]
    refine ih (e + 1) _ (by omega) (PT_off hn sd.2 hP rg.1 (hφe e (by omega))) (fun a b ha hb => ?_) (fun a ha => ?_)
    · unfold off
      split
      · intro hr
        have hr : ou r.1 (src e * 32 + dst e) true (a * 32 + b) = true:=hr
        show (ou r.2.1 (src e * 32 + dst e) (reg e) (a * 32 + b)).toInt≤7
        rw [ou_a] at hr ⊢
        split
        · exact rg.2
        · rename_i z
          rw [if_neg z] at hr
          exact h7 a b ha hb hr
      · exact h7 a b ha hb
    · unfold off
      split
      · rename_i q
        show ou r.1 (src e * 32 + dst e) true (a * 32 + a) = true∧(ou r.2.1 (src e * 32 + dst e) (reg e) (a * 32 + a)).toInt = 0
        rw [ou_a,ou_a]
        by_cases z : a * 32 + a = src e * 32 + dst e
        · rw [if_pos z,if_pos z]
          refine ⟨rfl,?_⟩
          have h:=hd a ha
          rw [← z] at q
          rcases q with q | q | q
          · rw [h.1] at q; cases q
          · rw [lt_i,h.2] at q; omega
          · rw [q.1]; exact h.2
        · rw [if_neg z,if_neg z]; exact hd a ha
      · exact hd a ha
theorem pairs_c (hn : n≤32) (hrg : ∀ e,e < m→0≤(reg e).toInt∧(reg e).toInt≤7) (hsd : ∀ e,e < m→src e < n∧dst e < n) (hφ : ∀ v,v < n→0≤φ v∧φ v≤1000) (hφe : ∀ e,e < m→(reg e).toInt = 0→0≤(vdel (src e)).toInt∧(vdel (src e)).toInt≤φ (dst e) - φ (src e)) :
    PT n φ (pairs n m reg vdel src dst)∧∀ a b,a < n→b < n→(pairs n m reg vdel src dst).1 (a * 32 + b) = true→((pairs n m reg vdel src dst).2.1 (a * 32 + b)).toInt≤231:=by
  obtain ⟨d1,d2,d3⟩:=cpD_c (φ:=φ) hn n 0 (fun _ => false,fun _ => 0,fun _ => 0) (by omega) (fun a b _ _ hr => by cases hr) (fun a b _ _ hr => by cases hr) (fun a ha => absurd ha (by omega))
  obtain ⟨e1,e2,e3⟩:=cpE_c hn hrg hsd hφe m 0 _ (by omega) d1 d2 d3
  obtain ⟨f1,f2⟩:=FW_all hn hφ n 0 _ (by omega) ⟨fun a b ha hb hr => by have:=e2 a b ha hb hr; rw [cB]; omega,fun l a b hl => absurd hl (by omega),e3⟩ e1
  refine ⟨f2,fun a b ha hb hr => ?_⟩
  have h1:=f1.1 a b ha hb hr
  have h2:=cB_le (fun l => (pairs n m reg vdel src dst).1 (a * 32 + l) && (pairs n m reg vdel src dst).1 (l * 32 + b)) n
  have h1 : ((pairs n m reg vdel src dst).2.1 (a * 32 + b)).toInt≤7 * (1 + (cB (fun l => (pairs n m reg vdel src dst).1 (a * 32 + l) && (pairs n m reg vdel src dst).1 (l * 32 + b)) n : Int)):=h1
  omega
end Init
/-! Bellman and Ford -/
section BF
variable {n m : Nat} {reg vdel : Nat→Int32} {src dst : Nat→Nat} {r : PR} {c : Int32}
def DB (n : Nat) (D : Int) (d : Nat→Int32) : Prop:=∀ v,v < n→-D≤(d v).toInt∧(d v).toInt≤0
theorem rpE_c (hrg : ∀ e,e < m→0≤(reg e).toInt∧(reg e).toInt≤7) (hsd : ∀ e,e < m→src e < n∧dst e < n) {D : Int} (hD : 0≤D∧D≤1000000) : ∀ (k e : Nat) (s : DC),e + k = m→DB n D s.1→DB n D (rpE reg src dst k e s).1∧((rpE reg src dst k e s).2 = false→s.2 = false∧(rpE reg src dst k e s).1 = s.1∧∀ e',e≤e'→e' < m→(s.1 (src e')).toInt≤(s.1 (dst e')).toInt + (reg e').toInt):=by
  intro k
  induction k with
  | zero => intro e s er hB; exact ⟨hB,fun q => ⟨q,rfl,fun e' q1 q2 => absurd q2 (by omega)⟩⟩
  | succ k ih =>
    intro e s er hB
    have rg:=hrg e (by omega)
    have sd:=hsd e (by omega)
    have b1:=hB (dst e) sd.2
    have b2:=hB (src e) sd.1
    have es : (s.1 (dst e) + reg e).toInt = (s.1 (dst e)).toInt + (reg e).toInt:=add_i (by omega) (by omega)
    rw [rpE]
    by_cases z : s.1 (dst e) + reg e < s.1 (src e)
    · rw [if_pos z]
      rw [lt_i,es] at z
      obtain ⟨i1,i2⟩:=ih (e + 1) (ou s.1 (src e) (s.1 (dst e) + reg e),true) (by omega) (fun v hv => by
        show -D≤(ou s.1 (src e) (s.1 (dst e) + reg e) v).toInt∧(ou s.1 (src e) (s.1 (dst e) + reg e) v).toInt≤0
        rw [ou_a]
        split
        · omega
        · exact hB v hv)
      exact ⟨i1,fun q => by have:=(i2 q).1; cases this⟩
    · rw [if_neg z]
      rw [lt_i,es] at z
      obtain ⟨i1,i2⟩:=ih (e + 1) s (by omega) hB
      refine ⟨i1,fun q => ⟨(i2 q).1,(i2 q).2.1,fun e' q1 q2 => ?_⟩⟩
      by_cases y : e' = e
      · subst y; omega
      · exact (i2 q).2.2 e' (by omega) q2
theorem rpV_c (hwt : ∀ a b,a < n→b < n→r.1 (a * 32 + b) = true→0≤(r.2.1 (a * 32 + b)).toInt∧(r.2.1 (a * 32 + b)).toInt≤231) {u : Nat} (hu : u < n) : ∀ (k v : Nat) (D : Int) (s : DC),v + k = n→0≤D→D + k≤1000000→DB n D s.1→DB n (D + k) (rpV r vdel c u k v s).1∧((rpV r vdel c u k v s).2 = false→s.2 = false∧(rpV r vdel c u k v s).1 = s.1):=by
  intro k
  induction k with
  | zero => intro v D s e d0 d1 hB; exact ⟨fun v hv => by have:=hB v hv; show -(D + ((0 : Nat) : Int))≤(s.1 v).toInt∧(s.1 v).toInt≤0; omega,fun q => ⟨q,rfl⟩⟩
  | succ k ih =>
    intro v D s e d0 d1 hB
    have hB1 : DB n (D + 1) s.1:=fun v hv => by have:=hB v hv; omega
    rw [rpV]
    by_cases z : r.1 (u * 32 + v) = true∧c < r.2.2 (u * 32 + v) + vdel v
    · rw [if_pos z]
      have w:=hwt u v hu (by omega) z.1
      have b1:=hB v (by omega)
      have b2:=hB u hu
      have e1 : (s.1 v + r.2.1 (u * 32 + v)).toInt = (s.1 v).toInt + (r.2.1 (u * 32 + v)).toInt:=add_i (by omega) (by omega)
      have e2 : (s.1 v + r.2.1 (u * 32 + v) - 1).toInt = (s.1 v).toInt + (r.2.1 (u * 32 + v)).toInt - 1:=by
        have i1 : (1 : Int32).toInt = 1:=rfl
        have:=sub_i (a:=s.1 v + r.2.1 (u * 32 + v)) (b:=1) (by omega) (by omega)
        rw [this,e1,i1]
      by_cases y : s.1 v + r.2.1 (u * 32 + v) - 1 < s.1 u
      · rw [if_pos y]
        rw [lt_i,e2] at y
        obtain ⟨i1,i2⟩:=ih (v + 1) (D + 1) (ou s.1 u (s.1 v + r.2.1 (u * 32 + v) - 1),true) (by omega) (by omega) (by omega) (fun w hw => by
          show -(D + 1)≤(ou s.1 u (s.1 v + r.2.1 (u * 32 + v) - 1) w).toInt∧(ou s.1 u (s.1 v + r.2.1 (u * 32 + v) - 1) w).toInt≤0
          rw [ou_a]
          split
          · omega
          · exact hB1 w hw)
        exact ⟨fun w hw => by have:=i1 w hw; omega,fun q => by have:=(i2 q).1; cases this⟩
      · rw [if_neg y]
        obtain ⟨i1,i2⟩:=ih (v + 1) (D + 1) s (by omega) (by omega) (by omega) hB1
        exact ⟨fun w hw => by have:=i1 w hw; omega,i2⟩
    · rw [if_neg z]
      obtain ⟨i1,i2⟩:=ih (v + 1) (D + 1) s (by omega) (by omega) (by omega) hB1
      exact ⟨fun w hw => by have:=i1 w hw; omega,i2⟩
theorem rpU_c (hn : n≤32) (hwt : ∀ a b,a < n→b < n→r.1 (a * 32 + b) = true→0≤(r.2.1 (a * 32 + b)).toInt∧(r.2.1 (a * 32 + b)).toInt≤231) : ∀ (k u : Nat) (D : Int) (s : DC),u + k = n→0≤D→D + 32 * k≤1000000→DB n D s.1→DB n (D + 32 * k) (rpU n r vdel c k u s).1∧((rpU n r vdel c k u s).2 = false→s.2 = false∧(rpU n r vdel c k u s).1 = s.1):=by
  intro k
  induction k with
  | zero => intro u D s e d0 d1 hB; exact ⟨fun v hv => by have:=hB v hv; show -(D + 32 * ((0 : Nat) : Int))≤(s.1 v).toInt∧(s.1 v).toInt≤0; omega,fun q => ⟨q,rfl⟩⟩
  | succ k ih =>
    intro u D s e d0 d1 hB
    rw [rpU]
    obtain ⟨v1,v2⟩:=rpV_c (vdel:=vdel) (c:=c) hwt (by omega : u < n) n 0 D s (by omega) d0 (by omega) hB
    obtain ⟨i1,i2⟩:=ih (u + 1) (D + 32) (rpV r vdel c u n 0 s) (by omega) (by omega) (by omega) (fun v hv => by have:=v1 v hv; omega)
    refine ⟨fun v hv => by have:=i1 v hv; omega,fun q => ?_⟩
    obtain ⟨q1,q2⟩:=i2 q
    obtain ⟨q3,q4⟩:=v2 q1
    exact ⟨q3,q2.trans q4⟩
theorem rpass_c (hn : n≤32) (hrg : ∀ e,e < m→0≤(reg e).toInt∧(reg e).toInt≤7) (hsd : ∀ e,e < m→src e < n∧dst e < n) (hwt : ∀ a b,a < n→b < n→r.1 (a * 32 + b) = true→0≤(r.2.1 (a * 32 + b)).toInt∧(r.2.1 (a * 32 + b)).toInt≤231) {D : Int} {d : Nat→Int32} (d0 : 0≤D) (d1 : D≤100000) (hB : DB n D d) :
    DB n (D + 1024) (rpass n m reg vdel src dst r c d).1∧((rpass n m reg vdel src dst r c d).2 = false→(rpass n m reg vdel src dst r c d).1 = d∧∀ e,e < m→(d (src e)).toInt≤(d (dst e)).toInt + (reg e).toInt):=by
  unfold rpass
  obtain ⟨e1,e2⟩:=rpE_c hrg hsd ⟨d0,by omega⟩ m 0 (d,false) (by omega) hB
  obtain ⟨u1,u2⟩:=rpU_c (vdel:=vdel) (c:=c) hn hwt n 0 D _ (by omega) d0 (by omega) e1
  refine ⟨fun v hv => by have:=u1 v hv; omega,fun q => ?_⟩
  obtain ⟨q1,q2⟩:=u2 q
  obtain ⟨q3,q4,q5⟩:=e2 q1
  exact ⟨q2.trans q4,fun e he => q5 e (by omega) he⟩
theorem feaL_c (hn : n≤32) (hrg : ∀ e,e < m→0≤(reg e).toInt∧(reg e).toInt≤7) (hsd : ∀ e,e < m→src e < n∧dst e < n) (hwt : ∀ a b,a < n→b < n→r.1 (a * 32 + b) = true→0≤(r.2.1 (a * 32 + b)).toInt∧(r.2.1 (a * 32 + b)).toInt≤231) : ∀ (f : Nat) (D : Int) (d : Nat→Int32),0≤D→D + 1024 * f≤100000→DB n D d →
    DB n (D + 1024 * f) (feaL n m reg vdel src dst r c f d).1∧((feaL n m reg vdel src dst r c f d).2 = true→∀ e,e < m→((feaL n m reg vdel src dst r c f d).1 (src e)).toInt≤((feaL n m reg vdel src dst r c f d).1 (dst e)).toInt + (reg e).toInt):=by
  intro f
  induction f with
  | zero => intro D d d0 d1 hB; exact ⟨fun v hv => by have:=hB v hv; show -(D + 1024 * 0)≤(d v).toInt∧(d v).toInt≤0; omega,fun q => by cases q⟩
  | succ f ih =>
    intro D d d0 d1 hB
    obtain ⟨p1,p2⟩:=rpass_c (vdel:=vdel) (c:=c) hn hrg hsd hwt d0 (by omega) hB
    rw [feaL]
    by_cases z : (rpass n m reg vdel src dst r c d).2 = true
    · rw [if_pos z]
      obtain ⟨i1,i2⟩:=ih (D + 1024) _ (by omega) (by omega) p1
      exact ⟨fun v hv => by have:=i1 v hv; omega,i2⟩
    · rw [if_neg z]
      have z' : (rpass n m reg vdel src dst r c d).2 = false:=by cases q : (rpass n m reg vdel src dst r c d).2 <;> simp_all
      obtain ⟨q1,q2⟩:=p2 z'
      refine ⟨fun v hv => ?_,fun _ e he => ?_⟩
      · show -(D + 1024 * ((f + 1 : Nat) : Int))≤((rpass n m reg vdel src dst r c d).1 v).toInt∧((rpass n m reg vdel src dst r c d).1 v).toInt≤0
        rw [q1]
        have:=hB v hv
        omega
      · show ((rpass n m reg vdel src dst r c d).1 (src e)).toInt≤((rpass n m reg vdel src dst r c d).1 (dst e)).toInt + (reg e).toInt
        rw [q1]
        exact q2 e he
theorem rpE_id {s : DC} : ∀ (k e : Nat),e + k = m→(∀ e,e < m→¬ s.1 (dst e) + reg e < s.1 (src e))→rpE reg src dst k e s = s:=by
  intro k
  induction k with
  | zero => intro e er h; rfl
  | succ k ih => intro e er h; rw [rpE,if_neg (h e (by omega))]; exact ih (e + 1) (by omega) h
theorem rpV_id {s : DC} {u : Nat} : ∀ (k v : Nat),v + k = n→(∀ v,v < n→r.1 (u * 32 + v) = true→c < r.2.2 (u * 32 + v) + vdel v→¬ s.1 v + r.2.1 (u * 32 + v) - 1 < s.1 u)→rpV r vdel c u k v s = s:=by
  intro k
  induction k with
  | zero => intro v er h; rfl
  | succ k ih =>
    intro v er h
    rw [rpV]
    by_cases z : r.1 (u * 32 + v) = true∧c < r.2.2 (u * 32 + v) + vdel v
    · rw [if_pos z,if_neg (h v (by omega) z.1 z.2)]; exact ih (v + 1) (by omega) h
    · rw [if_neg z]; exact ih (v + 1) (by omega) h
theorem rpU_id {s : DC} : ∀ (k u : Nat),u + k = n→(∀ u v,u < n→v < n→r.1 (u * 32 + v) = true→c < r.2.2 (u * 32 + v) + vdel v→¬ s.1 v + r.2.1 (u * 32 + v) - 1 < s.1 u)→rpU n r vdel c k u s = s:=by
  intro k
  induction k with
  | zero => intro u er h; rfl
  | succ k ih =>
    intro u er h
    rw [rpU,rpV_id n 0 (by omega) (fun v => h u v (by omega))]
    exact ih (u + 1) (by omega) h
end BF
theorem nI_hf {d : Nat} (h : d < 1024) : nI d / 2 = nI (d / 2):=by
  have : ∀ k : Fin 1024,nI k.val / 2 = nI (k.val / 2):=by decide +kernel
  exact this ⟨d,h⟩
theorem smin_c {fe : Int32→Bool} : ∀ (f a b : Nat),a≤b→b≤1000→b - a < 2 ^ f→fe (nI b) = true→∃ p,smin fe f (nI a) (nI b) = nI p∧p≤b∧fe (nI p) = true:=by
  intro f
  induction f with
  | zero =>
    intro a b h1 h2 h3 h4
    obtain rfl : a = b:=by rw [Nat.pow_zero] at h3; omega
    exact ⟨a,rfl,Nat.le_refl _,h4⟩
  | succ f ih =>
    intro a b h1 h2 h3 h4
    rw [Nat.pow_succ] at h3
    rw [smin]
    by_cases z : a < b
    · have z1 : nI a < nI b:=(nI_lt (by omega) (by omega)).mpr z
      have em : nI a + (nI b - nI a) / 2 = nI (a + (b - a) / 2):=by rw [nI_sub h1,nI_hf (by omega),nI_add]
      rw [if_pos z1,em]
      by_cases y : fe (nI (a + (b - a) / 2)) = true
      · rw [if_pos y]
        obtain ⟨p,p1,p2,p3⟩:=ih a (a + (b - a) / 2) (by omega) (by omega) (by omega) y
        exact ⟨p,p1,by omega,p3⟩
      · rw [if_neg y,nI_1]
        exact ih (a + (b - a) / 2 + 1) b (by omega) h2 (by omega) h4
    · have z1 : ¬ nI a < nI b:=fun q => z ((nI_lt (by omega) (by omega)).mp q)
      obtain rfl : a = b:=by omega
      rw [if_neg z1]
      exact ⟨a,rfl,Nat.le_refl _,h4⟩
def lagF (d : Nat→Int32) : Nat→Int32:=fun v => d v - d 0
def newF (reg d : Nat→Int32) (src dst : Nat→Nat) : Nat→Int32:=fun e => reg e + lagF d (dst e) - lagF d (src e)
section Ret
variable {n m : Nat} {reg vdel : Nat→Int32} {src dst : Nat→Nat}
/-- the parts of retime, as functions of the circuit -/
def rO (n m : Nat) (reg : Nat→Int32) (src dst : Nat→Nat) : TQ:=topo n m reg src dst (fun _ => 0)
theorem ret_c (hn0 : 0 < n) (hn : n≤32) (hm : m≤64) (hsd : ∀ e,e < m→src e < n∧dst e < n) (hrg : ∀ e,e < m→0≤(reg e).toInt∧(reg e).toInt≤7) (hvd : ∀ v,v < n→0≤(vdel v).toInt∧(vdel v).toInt≤15) {o0 : Nat→Nat} {arr : Nat→Int32} (hT : (topo n m reg src dst o0).2 = n) :
    ∃ p,smin (fun cc => (feas n m reg vdel src dst (pairs n m reg vdel src dst) cc).2) 40 0 (peI m reg vdel src dst (topo n m reg src dst o0).1 n 0 (arr,0)).2 = nI p∧p≤480∧∀ e,e < m→0≤(newF reg (feas n m reg vdel src dst (pairs n m reg vdel src dst) (nI p)).1 src dst e).toInt∧(newF reg (feas n m reg vdel src dst (pairs n m reg vdel src dst) (nI p)).1 src dst e).toInt≤1000000:=by
  obtain ⟨k1,k2,k3,k4⟩:=topo_KO (x:=reg) hn hm hsd o0
  rw [hT] at k1 k2 k3 k4
  generalize (topo n m reg src dst o0).1 = o at *
  obtain ⟨p1,p2,p3,p4⟩:=per_c (arr:=arr) hn hvd k2 k3 (fun i e hi he hx hd => k4 i e hi he hx hd) hsd
  generalize peI m reg vdel src dst o n 0 (arr,0) = P at *
  obtain ⟨q1,q2⟩:=pairs_c (reg:=reg) (vdel:=vdel) (src:=src) (dst:=dst) (φ:=fun v => (P.1 v).toInt - (vdel v).toInt) hn hrg hsd (fun v hv => by
    have:=p1 v hv
    have:=hvd v hv
    show 0≤(P.1 v).toInt - (vdel v).toInt∧(P.1 v).toInt - (vdel v).toInt≤1000
    omega) (fun e he hz => by
    have z : reg e = 0:=Int32.toInt_inj.mp hz
    have:=p2 e he z
    have:=hvd (src e) (hsd e he).1
    show 0≤(vdel (src e)).toInt∧(vdel (src e)).toInt≤(P.1 (dst e)).toInt - (vdel (dst e)).toInt - ((P.1 (src e)).toInt - (vdel (src e)).toInt)
    omega)
  generalize pairs n m reg vdel src dst = r at *
  have hwt : ∀ a b,a < n→b < n→r.1 (a * 32 + b) = true→0≤(r.2.1 (a * 32 + b)).toInt∧(r.2.1 (a * 32 + b)).toInt≤231:=fun a b ha hb hr => ⟨(q1 a b ha hb hr).1,q2 a b ha hb hr⟩
  obtain ⟨bk,hbk,eb⟩:=rng (x:=P.2) (n:=481) p3 (by omega)
  have eb' : P.2 = nI bk:=eb
  have ebI : P.2.toInt = bk:=by rw [eb']; exact nI_int (by omega)
  have top : (feas n m reg vdel src dst r (nI bk)).2 = true:=by
    have hp : rpass n m reg vdel src dst r (nI bk) (fun _ => 0) = ((fun _ => 0),false):=by
      unfold rpass
      have i1 : rpE reg src dst m 0 ((fun _ => 0),false) = ((fun _ => 0),false):=rpE_id (m:=m) m 0 (by omega) (fun e he => by
        show ¬ (0 : Int32) + reg e < 0
        rw [Int32.zero_add,lt_i]
        have:=hrg e he
        have i0 : (0 : Int32).toInt = 0:=rfl
        omega)
      rw [i1]
      exact rpU_id n 0 (by omega) (fun u v hu hv hr hc => by
        show ¬ (0 : Int32) + r.2.1 (u * 32 + v) - 1 < 0
        have w:=hwt u v hu hv hr
        have i0 : (0 : Int32).toInt = 0:=rfl
        have i1 : (1 : Int32).toInt = 1:=rfl
        have e2:=sub_i (a:=r.2.1 (u * 32 + v)) (b:=1) (by omega) (by omega)
        rw [Int32.zero_add,lt_i,e2,i1,i0]
        intro z
        have dd:=(q1 u v hu hv hr).2 (by omega)
        have dd : 0≤(r.2.2 (u * 32 + v)).toInt∧(r.2.2 (u * 32 + v)).toInt≤(P.1 v).toInt - (vdel v).toInt - ((P.1 u).toInt - (vdel u).toInt):=dd
        have a1:=p1 u hu
        have a2:=p1 v hv
        have a3:=hvd u hu
        have a4:=hvd v hv
        have e3 : (r.2.2 (u * 32 + v) + vdel v).toInt = (r.2.2 (u * 32 + v)).toInt + (vdel v).toInt:=add_i (by omega) (by omega)
        rw [lt_i,e3,nI_int (by omega)] at hc
        omega)
    unfold feas
    rw [feaL,hp]
    rfl
  obtain ⟨p,s1,s2,s3⟩:=smin_c (fe:=fun cc => (feas n m reg vdel src dst r cc).2) 40 0 bk (by omega) (by omega) (Nat.lt_of_lt_of_le (by omega : bk - 0 < 1024) (by decide)) top
  refine ⟨p,by rw [eb']; exact s1,by omega,fun e he => ?_⟩
  obtain ⟨f1,f2⟩:=feaL_c (vdel:=vdel) (c:=nI p) hn hrg hsd hwt (n + 2) 0 (fun _ => 0) (by omega) (by omega) (fun v hv => ⟨by show (-0 : Int)≤(0 : Int32).toInt; decide,by show (0 : Int32).toInt≤0; decide⟩)
  have f1 : DB n (0 + 1024 * ((n + 2 : Nat) : Int)) (feas n m reg vdel src dst r (nI p)).1:=f1
  have f2:=f2 s3 e he
  have f2 : ((feas n m reg vdel src dst r (nI p)).1 (src e)).toInt≤((feas n m reg vdel src dst r (nI p)).1 (dst e)).toInt + (reg e).toInt:=f2
  generalize (feas n m reg vdel src dst r (nI p)).1 = d at *
  have sd:=hsd e he
  have b0:=f1 0 hn0
  have b1:=f1 (src e) sd.1
  have b2:=f1 (dst e) sd.2
  have rg:=hrg e he
  have l1 : (lagF d (dst e)).toInt = (d (dst e)).toInt - (d 0).toInt:=sub_i (by omega) (by omega)
  have l2 : (lagF d (src e)).toInt = (d (src e)).toInt - (d 0).toInt:=sub_i (by omega) (by omega)
  have l3 : (reg e + lagF d (dst e)).toInt = (reg e).toInt + (lagF d (dst e)).toInt:=add_i (by omega) (by omega)
  have l4 : (newF reg d src dst e).toInt = (reg e + lagF d (dst e)).toInt - (lagF d (src e)).toInt:=sub_i (by omega) (by omega)
  omega
end Ret
/-! what topo leaves alone -/
section Keep
variable {n m : Nat} {x : Nat→Int32} {src dst : Nat→Nat}
def KP (o0 : Nat→Nat) (q : TQ) : Prop:=∀ i,q.2≤i→q.1 i = o0 i
theorem KP_push {o0 : Nat→Nat} {q : TQ} {v : Nat} (h : KP o0 q) : KP o0 (ou q.1 q.2 v,q.2 + 1):=by
  intro i hi
  have hi : q.2 + 1≤i:=hi
  show ou q.1 q.2 v i = o0 i
  rw [ou_a,if_neg (by omega)]
  exact h i (by omega)
theorem tpQ_k {o0 : Nat→Nat} {d : Nat→Int32} : ∀ (r v : Nat) (q : TQ),KP o0 q→KP o0 (tpQ d r v q):=by
  intro r
  induction r with
  | zero => intro v q h; exact h
  | succ r ih =>
    intro v q h
    rw [tpQ]
    split
    · exact ih _ _ (KP_push h)
    · exact ih _ _ h
theorem tp1_k {o0 : Nat→Nat} {u e : Nat} {s : TS} (h : KP o0 s.2) : KP o0 (tp1 x src dst u e s).2:=by
  unfold tp1
  split
  · show KP o0 (if _ then _ else _)
    split
    · exact KP_push h
    · exact h
  · exact h
theorem tpE_k {o0 : Nat→Nat} {u : Nat} : ∀ (r e : Nat) (s : TS),KP o0 s.2→KP o0 (tpE x src dst u r e s).2:=by
  intro r
  induction r with
  | zero => intro e s h; exact h
  | succ r ih => intro e s h; rw [tpE]; exact ih _ _ (tp1_k h)
theorem tpH_k {o0 : Nat→Nat} : ∀ (f h : Nat) (s : TS),KP o0 s.2→KP o0 (tpH x src dst m f h s).2:=by
  intro f
  induction f with
  | zero => intro h s q; exact q
  | succ f ih =>
    intro h s q
    rw [tpH]
    split
    · exact ih _ _ (tpE_k _ _ _ q)
    · exact q
theorem topo_k (o0 : Nat→Nat) : KP o0 (topo n m x src dst o0):=tpH_k _ _ _ (tpQ_k _ _ _ (fun _ _ => rfl))
theorem siT_o {vop vk inp : Nat→Int32} {o : Nat→Nat} {c i : Nat} (hi : ¬ (c * 32≤i∧i < c * 32 + 32)) : ∀ (k t : Nat) (p : (Nat→Int32) × (Nat→Int32)),t + k≤32→(siT n m vop vk inp x src dst o c k t p).2 i = p.2 i:=by
  intro k
  induction k with
  | zero => intro t p h; rfl
  | succ k ih =>
    intro t p h
    rw [siT,ih _ _ (by omega)]
    show ou p.2 _ _ i = _
    rw [ou_a,if_neg (by omega)]
end Keep
/-! the parts of retime and simulate, functions of the circuit -/
def cO (n m : Nat) (reg : Nat→Int32) (src dst : Nat→Nat) : TQ:=topo n m reg src dst (fun _ => 0)
def cP (n m : Nat) (vdel reg : Nat→Int32) (src dst : Nat→Nat) : (Nat→Int32) × Int32:=peI m reg vdel src dst (cO n m reg src dst).1 n 0 (fun _ => 0,0)
def cR (n m : Nat) (vdel reg : Nat→Int32) (src dst : Nat→Nat) : PR:=pairs n m reg vdel src dst
def cM (n m : Nat) (vdel reg : Nat→Int32) (src dst : Nat→Nat) : Int32:=smin (fun cc => (feas n m reg vdel src dst (cR n m vdel reg src dst) cc).2) 40 0 (cP n m vdel reg src dst).2
def cD (n m : Nat) (vdel reg : Nat→Int32) (src dst : Nat→Nat) : Nat→Int32:=(feas n m reg vdel src dst (cR n m vdel reg src dst) (cM n m vdel reg src dst)).1
def cX (n m : Nat) (vdel reg : Nat→Int32) (src dst : Nat→Nat) : Nat→Int32:=newF reg (cD n m vdel reg src dst) src dst
def cO1 (n m : Nat) (vdel reg : Nat→Int32) (src dst : Nat→Nat) : TQ:=topo n m (cX n m vdel reg src dst) src dst (cO n m reg src dst).1
def cP1 (n m : Nat) (vdel reg : Nat→Int32) (src dst : Nat→Nat) : Int32:=(peI m (cX n m vdel reg src dst) vdel src dst (cO1 n m vdel reg src dst).1 n 0 ((cP n m vdel reg src dst).1,0)).2
def cS0 (n m T : Nat) (vop vk inp reg : Nat→Int32) (src dst : Nat→Nat) : (Nat→Int32) × (Nat→Int32):=siT n m vop vk inp reg src dst (cO n m reg src dst).1 0 T 0 (fun _ => 0,fun _ => 0)
def cS1 (n m T : Nat) (vop vk inp vdel reg : Nat→Int32) (src dst : Nat→Nat) : (Nat→Int32) × (Nat→Int32):=siT n m vop vk inp (cX n m vdel reg src dst) src dst (cO1 n m vdel reg src dst).1 1 T 0 ((cS0 n m T vop vk inp reg src dst).1,(cS0 n m T vop vk inp reg src dst).2)
/-! causality of the simulation -/
section Caus
variable {n m T : Nat} {vop vk inp inp' x : Nat→Int32} {src dst o : Nat→Nat}
def AG (n T : Nat) (f g : Nat→Int32) : Prop:=∀ v u,v < n→u < T→f (v * 32 + u) = g (v * 32 + u)
theorem evE_a {op : Int32} {sv sv' : Nat→Int32} {v t : Nat} (hT : T≤32) (ht : t < T) (hX : ∀ e,e < m→0≤(x e).toInt) (hs : ∀ e,e < m→src e < n) (h : AG n T sv sv') : ∀ (k e : Nat) (a : Int32),e + k = m→evE op x src dst sv v t k e a = evE op x src dst sv' v t k e a:=by
  intro k
  induction k with
  | zero => intro e a _; rfl
  | succ k ih =>
    intro e a er
    rw [evE,evE]
    have hv : (if nI t - x e < 0 then 0 else sv (src e * 32 + (nI t - x e).toNatClampNeg)) = (if nI t - x e < 0 then 0 else sv' (src e * 32 + (nI t - x e).toNatClampNeg)):=by
      split
      · rfl
      · rename_i y
        have hx0:=hX e (by omega)
        have tI:=nI_int (n:=t) (by omega)
        have bI : (nI t - x e).toInt = t - (x e).toInt:=by
          have xb:=Int32.toInt_lt (x e)
          have:=sub_i (a:=nI t) (b:=x e) (by omega) (by omega)
          rw [this,tI]
        rw [lt_i,show (0 : Int32).toInt = 0 from rfl,bI] at y
        refine h _ _ (hs e (by omega)) ?_
        rw [toNat_eq,bI]
        omega
    rw [hv]
    exact ih (e + 1) _ (by omega)
theorem evV_a {sv sv' : Nat→Int32} {v t : Nat} (hT : T≤32) (ht : t < T) (hi : inp t = inp' t) (hX : ∀ e,e < m→0≤(x e).toInt) (hs : ∀ e,e < m→src e < n) (h : AG n T sv sv') : evV m vop vk inp x src dst sv v t = evV m vop vk inp' x src dst sv' v t:=by
  unfold evV
  rw [hi,evE_a hT ht hX hs h m 0 _ (by omega)]
theorem AG_ou {f g : Nat→Int32} {i : Nat} {y : Int32} (h : AG n T f g) : AG n T (ou f i y) (ou g i y):=by
  intro v u hv hu
  rw [ou_a,ou_a]
  split
  · rfl
  · exact h v u hv hu
theorem siI_a {t : Nat} (hT : T≤32) (ht : t < T) (hi : inp t = inp' t) (hX : ∀ e,e < m→0≤(x e).toInt) (hs : ∀ e,e < m→src e < n) : ∀ (k i : Nat) (sv sv' : Nat→Int32),AG n T sv sv'→AG n T (siI m vop vk inp x src dst o t k i sv) (siI m vop vk inp' x src dst o t k i sv'):=by
  intro k
  induction k with
  | zero => intro i sv sv' h; exact h
  | succ k ih =>
    intro i sv sv' h
    rw [siI,siI,evV_a (vop:=vop) (vk:=vk) (dst:=dst) (v:=o i) hT ht hi hX hs h]
    exact ih _ _ _ (AG_ou h)
theorem siT_a {c : Nat} (hn : 0 < n) (hT : T≤32) (hi : ∀ u,u < T→inp u = inp' u) (hX : ∀ e,e < m→0≤(x e).toInt) (hs : ∀ e,e < m→src e < n) : ∀ (k t : Nat) (p p' : (Nat→Int32) × (Nat→Int32)),t + k≤T→AG n T p.1 p'.1→(∀ i,p.2 i = p'.2 i)→AG n T (siT n m vop vk inp x src dst o c k t p).1 (siT n m vop vk inp' x src dst o c k t p').1∧∀ i,(siT n m vop vk inp x src dst o c k t p).2 i = (siT n m vop vk inp' x src dst o c k t p').2 i:=by
  intro k
  induction k with
  | zero => intro t p p' _ h1 h2; exact ⟨h1,h2⟩
  | succ k ih =>
    intro t p p' h h1 h2
    rw [siT,siT]
    have hA:=siI_a (vop:=vop) (vk:=vk) (dst:=dst) (o:=o) hT (by omega : t < T) (hi t (by omega)) hX hs n 0 p.1 p'.1 h1
    refine ih (t + 1) _ _ (by omega) hA (fun i => ?_)
    show ou p.2 _ _ i = ou p'.2 _ _ i
    rw [ou_a,ou_a]
    split
    · exact hA (n - 1) t (by omega) (by omega)
    · exact h2 i
theorem siT_s {c : Nat} : ∀ (k l t : Nat) (p : (Nat→Int32) × (Nat→Int32)),siT n m vop vk inp x src dst o c (k + l) t p = siT n m vop vk inp x src dst o c l (t + k) (siT n m vop vk inp x src dst o c k t p):=by
  intro k
  induction k with
  | zero => intro l t p; rw [Nat.zero_add]; rfl
  | succ k ih =>
    intro l t p
    rw [show k + 1 + l = (k + l) + 1 by omega,siT,ih,siT,show t + 1 + k = t + (k + 1) by omega]
theorem siI_l {t : Nat} (ho : ∀ i,i < n→o i < n) (ht : t < 32) (hTt : T≤t) : ∀ (k i : Nat) (sv : Nat→Int32),i + k = n→AG n T (siI m vop vk inp x src dst o t k i sv) sv:=by
  intro k
  induction k with
  | zero => intro i sv _ v u _ _; rfl
  | succ k ih =>
    intro i sv e v u hv hu
    rw [siI,ih (i + 1) _ (by omega) v u hv hu,ou_a,if_neg (by omega)]
theorem siT_l {c : Nat} (ho : ∀ i,i < n→o i < n) : ∀ (k t : Nat) (p : (Nat→Int32) × (Nat→Int32)),t + k≤32→T≤t→AG n T (siT n m vop vk inp x src dst o c k t p).1 p.1∧∀ u,u < T→(siT n m vop vk inp x src dst o c k t p).2 (c * 32 + u) = p.2 (c * 32 + u):=by
  intro k
  induction k with
  | zero => intro t p _ _; exact ⟨fun _ _ _ _ => rfl,fun _ _ => rfl⟩
  | succ k ih =>
    intro t p h ht
    rw [siT]
    obtain ⟨a,c⟩:=ih (t + 1) (siI m vop vk inp x src dst o t n 0 p.1,ou p.2 (c * 32 + t) (siI m vop vk inp x src dst o t n 0 p.1 ((n - 1) * 32 + t))) (by omega) (by omega)
    refine ⟨fun v u hv hu => (a v u hv hu).trans (siI_l ho (by omega) ht n 0 p.1 (by omega) v u hv hu),fun u hu => (c u hu).trans ?_⟩
    show ou p.2 _ _ _ = _
    rw [ou_a,if_neg (by omega)]
theorem siT_v {c : Nat} (hn : 0 < n) (hT : T≤32) (hi : ∀ u,u < T→inp u = inp' u) (hX : ∀ e,e < m→0≤(x e).toInt) (hs : ∀ e,e < m→src e < n) : ∀ (k t : Nat) (p p' : (Nat→Int32) × (Nat→Int32)),t + k = T→AG n T p.1 p'.1→(∀ u,u < t→p.2 (c * 32 + u) = p'.2 (c * 32 + u))→∀ u,u < T→(siT n m vop vk inp x src dst o c k t p).2 (c * 32 + u) = (siT n m vop vk inp' x src dst o c k t p').2 (c * 32 + u):=by
  intro k
  induction k with
  | zero => intro t p p' h h1 h2 u hu; exact h2 u (by omega)
  | succ k ih =>
    intro t p p' h h1 h2
    rw [siT,siT]
    have hA:=siI_a (vop:=vop) (vk:=vk) (dst:=dst) (o:=o) hT (by omega : t < T) (hi t (by omega)) hX hs n 0 p.1 p'.1 h1
    refine ih (t + 1) _ _ (by omega) hA (fun u hu => ?_)
    show ou p.2 _ _ _ = ou p'.2 _ _ _
    rw [ou_a,ou_a]
    by_cases z : c * 32 + u = c * 32 + t
    · rw [if_pos z,if_pos z]; exact hA (n - 1) t (by omega) (by omega)
    · rw [if_neg z,if_neg z]; exact h2 u (by omega)
end Caus
/-- a longer run starts as the shorter one -/
theorem cS_pre {n m T T' : Nat} {vop vk inp inp' vdel reg : Nat→Int32} {src dst : Nat→Nat} (hn : 0 < n) (hT : T≤T') (hT' : T'≤32) (hi : ∀ u,u < T→inp u = inp' u) (hrg : ∀ e,e < m→0≤(reg e).toInt) (hX : ∀ e,e < m→0≤(cX n m vdel reg src dst e).toInt) (hs : ∀ e,e < m→src e < n) (ho : ∀ i,i < n→(cO n m reg src dst).1 i < n) (ho1 : ∀ i,i < n→(cO1 n m vdel reg src dst).1 i < n) :
    ∀ u,u < T→(cS1 n m T vop vk inp vdel reg src dst).2 u = (cS1 n m T' vop vk inp' vdel reg src dst).2 u∧(cS1 n m T vop vk inp vdel reg src dst).2 (32 + u) = (cS1 n m T' vop vk inp' vdel reg src dst).2 (32 + u):=by
  have e0 : cS0 n m T' vop vk inp' reg src dst = siT n m vop vk inp' reg src dst (cO n m reg src dst).1 0 (T' - T) (0 + T) (cS0 n m T vop vk inp' reg src dst):=by
    unfold cS0
    rw [← siT_s,show T + (T' - T) = T' by omega]
  obtain ⟨a1,a2⟩:=siT_a (vop:=vop) (vk:=vk) (dst:=dst) (o:=(cO n m reg src dst).1) (c:=0) (T:=T) hn (by omega) hi hrg hs T 0 (fun _ => 0,fun _ => 0) (fun _ => 0,fun _ => 0) (by omega) (fun _ _ _ _ => rfl) (fun _ => rfl)
  obtain ⟨l1,l2⟩:=siT_l (T:=T) (m:=m) (vop:=vop) (vk:=vk) (inp:=inp') (x:=reg) (src:=src) (dst:=dst) (c:=0) ho (T' - T) (0 + T) (cS0 n m T vop vk inp' reg src dst) (by omega) (by omega)
  rw [← e0] at l1 l2
  have a1 : AG n T (cS0 n m T vop vk inp reg src dst).1 (cS0 n m T vop vk inp' reg src dst).1:=a1
  have ag : AG n T (cS0 n m T vop vk inp reg src dst).1 (cS0 n m T' vop vk inp' reg src dst).1:=fun v u hv hu => (a1 v u hv hu).trans (l1 v u hv hu).symm
  intro u hu
  constructor
  · have q1 : (cS1 n m T vop vk inp vdel reg src dst).2 u = (cS0 n m T vop vk inp reg src dst).2 u:=siT_o (by omega) T 0 _ (by omega)
    have q2 : (cS1 n m T' vop vk inp' vdel reg src dst).2 u = (cS0 n m T' vop vk inp' reg src dst).2 u:=siT_o (by omega) T' 0 _ (by omega)
    have q3:=l2 u hu
    rw [Nat.zero_mul,Nat.zero_add] at q3
    rw [q1,q2,q3]
    exact a2 u
  · have e1 : cS1 n m T' vop vk inp' vdel reg src dst = siT n m vop vk inp' (cX n m vdel reg src dst) src dst (cO1 n m vdel reg src dst).1 1 (T' - T) (0 + T) (siT n m vop vk inp' (cX n m vdel reg src dst) src dst (cO1 n m vdel reg src dst).1 1 T 0 ((cS0 n m T' vop vk inp' reg src dst).1,(cS0 n m T' vop vk inp' reg src dst).2)):=by
      unfold cS1
      rw [← siT_s,show T + (T' - T) = T' by omega]
    obtain ⟨_,m2⟩:=siT_l (T:=T) (m:=m) (vop:=vop) (vk:=vk) (inp:=inp') (x:=cX n m vdel reg src dst) (src:=src) (dst:=dst) (c:=1) ho1 (T' - T) (0 + T) (siT n m vop vk inp' (cX n m vdel reg src dst) src dst (cO1 n m vdel reg src dst).1 1 T 0 ((cS0 n m T' vop vk inp' reg src dst).1,(cS0 n m T' vop vk inp' reg src dst).2)) (by omega) (by omega)
    rw [← e1] at m2
    have q3:=m2 u hu
    rw [Nat.one_mul] at q3
    rw [q3]
    -- the outputs of circuit 1 come from the values alone
    have b:=siT_v (vop:=vop) (vk:=vk) (dst:=dst) (o:=(cO1 n m vdel reg src dst).1) (c:=1) (T:=T) hn (by omega) hi hX hs T 0 ((cS0 n m T vop vk inp reg src dst).1,(cS0 n m T vop vk inp reg src dst).2) ((cS0 n m T' vop vk inp' reg src dst).1,(cS0 n m T' vop vk inp' reg src dst).2) (by omega) ag (fun u hu => absurd hu (by omega)) u hu
    rw [Nat.one_mul] at b
    exact b
/-- the circuit stands in the object -/
def KC (n m : Nat) (vop vdel vk : Nat→Int32) (src dst : Nat→Nat) (reg : Nat→Int32) (s : Nat→Int32) (A : Nat→List Int32) : Prop:=s 0 = nI n∧s 1 = nI m∧n≤32∧m≤64∧LN A∧(∀ e,e < m→src e < n∧dst e < n)∧CF (A 0) vop n∧CF (A 1) vdel n∧CF (A 2) vk n∧CN (A 3) src m∧CN (A 4) dst m∧CF (A 5) reg m
/-- the register counts of the chosen circuit -/
def KX (c m : Nat) (x : Nat→Int32) (A : Nat→List Int32) : Prop:=(c = 0∧CF (A 5) x m) ∨ (c = 1∧CF (A 6) x m)
section Eng
variable {b : Nat} {pre post : AHeap} {Q : Option Value→AHeap→Prop} {s : Nat→Int32} {A : Nat→List Int32} {n m c kn : Nat} {vop vdel vk reg x : Nat→Int32} {src dst : Nat→Nat}
theorem KC.ar {A' : Nat→List Int32} (h : KC n m vop vdel vk src dst reg s A) (hl : LN A') (e : ∀ k,k < 6→A' k = A k) : KC n m vop vdel vk src dst reg s A':=by
  obtain ⟨h1,h2,h3,h4,h5,h6,h7,h8,h9,h10,h11,h12⟩:=h
  refine ⟨h1,h2,h3,h4,hl,h6,?_,?_,?_,?_,?_,?_⟩
  · rw [e 0 (by omega)]; exact h7
  · rw [e 1 (by omega)]; exact h8
  · rw [e 2 (by omega)]; exact h9
  · rw [e 3 (by omega)]; exact h10
  · rw [e 4 (by omega)]; exact h11
  · rw [e 5 (by omega)]; exact h12
theorem KC.e0 (h : KC n m vop vdel vk src dst reg s A) : s 0 = nI n:=h.1
theorem KC.e1 (h : KC n m vop vdel vk src dst reg s A) : s 1 = nI m:=h.2.1
theorem KC.n32 (h : KC n m vop vdel vk src dst reg s A) : n≤32:=h.2.2.1
theorem KC.m64 (h : KC n m vop vdel vk src dst reg s A) : m≤64:=h.2.2.2.1
theorem KC.ln (h : KC n m vop vdel vk src dst reg s A) : LN A:=h.2.2.2.2.1
theorem KC.lt (h : KC n m vop vdel vk src dst reg s A) {e : Nat} (he : e < m) : src e < n∧dst e < n:=h.2.2.2.2.2.1 e he
theorem KC.vo (h : KC n m vop vdel vk src dst reg s A) : CF (A 0) vop n:=h.2.2.2.2.2.2.1
theorem KC.vd (h : KC n m vop vdel vk src dst reg s A) : CF (A 1) vdel n:=h.2.2.2.2.2.2.2.1
theorem KC.kk (h : KC n m vop vdel vk src dst reg s A) : CF (A 2) vk n:=h.2.2.2.2.2.2.2.2.1
theorem KC.sr (h : KC n m vop vdel vk src dst reg s A) : CN (A 3) src m:=h.2.2.2.2.2.2.2.2.2.1
theorem KC.ds (h : KC n m vop vdel vk src dst reg s A) : CN (A 4) dst m:=h.2.2.2.2.2.2.2.2.2.2.1
theorem KC.rg (h : KC n m vop vdel vk src dst reg s A) : CF (A 5) reg m:=h.2.2.2.2.2.2.2.2.2.2.2
theorem KX.ar {A' : Nat→List Int32} (h : KX c m x A) (e5 : A' 5 = A 5) (e6 : A' 6 = A 6) : KX c m x A':=by
  unfold KX
  rw [e5,e6]
  exact h
theorem KX.c1 (h : KX c m x A) : c≤1:=by rcases h with ⟨h,_⟩ | ⟨h,_⟩ <;> omega
def FT (A A' : Nat→List Int32) : Prop:=∀ k,k ≠ 14→k ≠ 15→A' k = A k
theorem FT_r (A : Nat→List Int32) : FT A A:=fun _ _ _ => rfl
theorem FT_t {A A' A'' : Nat→List Int32} (h : FT A A') (h' : FT A' A'') : FT A A'':=fun k a c => (h' k a c).trans (h k a c)
theorem FT_o {A : Nat→List Int32} {j : Nat} {l : List Int32} (h : j = 14 ∨ j = 15) : FT A (ou A j l):=fun k a c => by rw [ou_a,if_neg (by omega)]
theorem KC.ft {A' : Nat→List Int32} (h : KC n m vop vdel vk src dst reg s A) (hl : LN A') (f : FT A A') : KC n m vop vdel vk src dst reg s A':=h.ar hl (fun k hk => f k (by omega) (by omega))
theorem KX.ft {A' : Nat→List Int32} (h : KX c m x A) (f : FT A A') : KX c m x A':=h.ar (f 5 (by decide) (by decide)) (f 6 (by decide) (by decide))
set_option maxRecDepth 1000000 in
set_option maxHeartbeats 20000000 in
theorem xW {e : Nat} (hx : KX c m x A) (he : e < m) (hm : m≤64) (hl : LN A) (hq : Q (some (.int (x e))) (put (b + 1) pre s A post)) : M14 0 [.val (.ref (b + 1)),.val (.int (nI e)),.val (.int (nI c))] [] (put (b + 1) pre s A post) Q:=by
  have q5:=in5 hl (i:=e) (by omega)
  have q6:=in6 hl (i:=e) (by omega)
  rcases hx with ⟨rfl,h⟩ | ⟨rfl,h⟩
  · have z : (nI 0 = 1) = False:=eq_false (by decide)
    have v:=h e he
    simp [z,q5,v,m14_0,m14_1,m14_2,m14_5,m14_6,m14_9,m14_10,m14_11,m14_12,m14_13,m14_16,m14_17,m14_18,nb0,nb1,ou_a,Option.toList_some,Option.toList_none,List.nil_append,List.cons_append]
    exact hq
  · have z : (nI 1 = 1) = True:=eq_true rfl
    have v:=h e he
    simp [z,q6,v,m14_0,m14_1,m14_2,m14_5,m14_6,m14_9,m14_10,m14_11,m14_12,m14_13,m14_16,m14_17,m14_18,nb0,nb1,ou_a,Option.toList_some,Option.toList_none,List.nil_append,List.cons_append]
    exact hq
def TI (n kn : Nat) (t : TS) (A : Nat→List Int32) : Prop:=LN A∧CF (A 15) t.1 n∧CN (A 14) t.2.1 kn∧CN (A 14) t.2.1 t.2.2∧t.2.2≤32∧kn≤32∧∀ i,i < t.2.2→t.2.1 i < n
set_option maxRecDepth 1000000 in
set_option maxHeartbeats 20000000 in
theorem tE {u h : Nat} (hu : u < 32) : ∀ (r e : Nat) (l6 : Slot) (t : TS) (A : Nat→List Int32),e + r = m→KC n m vop vdel vk src dst reg s A→KX c m x A→TI n kn t A→okS l6 →
    (∀ l6 A',okS l6→FT A A'→TI n kn (tpE x src dst u r e t) A'→M5 108 [.val (.ref (b + 1)),.val (.int (nI c)),.val (.int (nI (tpE x src dst u r e t).2.2)),.val (.int (nI (h + 1))),.val (.int (nI u)),.val (.int (nI m)),l6] [] (put (b + 1) pre s A' post) Q) →
    M5 130 [.val (.ref (b + 1)),.val (.int (nI c)),.val (.int (nI t.2.2)),.val (.int (nI h)),.val (.int (nI u)),.val (.int (nI e)),l6] [] (put (b + 1) pre s A post) Q:=by
  intro r
  induction r with
  | zero =>
    intro e l6 t A er hK hx ht o6 hq
    have e1:=hK.e1
    have m64:=hK.m64
    obtain rfl : e = m:=by omega
    have c1 : (nI e < nI e) = False:=lF (by omega) (by omega)
    rw [m5_130]
    simp [e1,c1,nI_1,m5_0,m5_1u,m5_3,m5_4,m5_7,m5_10,m5_11,m5_14,m5_15,m5_16,m5_17,m5_20,m5_23,m5_24i,m5_26,m5_27,m5_30,m5_33,m5_34,m5_35,m5_36,m5_39,m5_42,m5_43,m5_46,m5_47,m5_50,m5_51,m5_52,m5_53,m5_54,m5_55,m5_56,m5_57,m5_60,m5_63,m5_64i,m5_65,m5_66u,m5_68,m5_69,m5_72,m5_75,m5_76,m5_79,m5_80,m5_81,m5_84,m5_85,m5_87,m5_90,m5_91,m5_94,m5_95,m5_96,m5_97,m5_100,m5_103,m5_106,m5_107i,m5_109,m5_110,m5_113,m5_114,m5_116,m5_119,m5_120,m5_123,m5_124,m5_125u,m5_125i,m5_125r,m5_125g,m5_127,m5_128u,m5_128i,m5_128r,m5_128g,m5_132,m5_133,m5_136,m5_139,m5_140,m5_143,m5_145,m5_146,m5_148,m5_151,m5_152,m5_154,m5_155,m5_158,m5_161,m5_162,m5_165,m5_167,m5_168u,m5_168i,m5_168r,m5_168g,m5_170,m5_171,m5_174,m5_176,m5_177,m5_178,m5_179,m5_180,m5_181,m5_182,m5_185,m5_187,m5_188,m5_191,m5_192,m5_194,m5_197,m5_198,m5_201,m5_202,m5_204,m5_205,m5_208,m5_211,m5_214,m5_217,m5_220,m5_221,m5_222,m5_225,m5_228,m5_229,m5_232,m5_233,nb0,nb1,ou_a,Option.toList_some,Option.toList_none,List.nil_append,List.cons_append]
    exact hq _ _ o6 (FT_r _) ht
  | succ r ih =>
    intro e l6 t A er hK hx ht o6 hq
    have e1:=hK.e1
    have m64:=hK.m64
    have n32:=hK.n32
    have sd:=hK.lt (e:=e) (by omega)
    have c1 : (nI e < nI m) = True:=lT (by omega) (by omega)
    have q3:=in3 hK.ln (i:=e) (by omega)
    have v3:=hK.sr e (by omega)
    rw [tpE] at hq
    rw [m5_130]
    by_cases z : src e = u
    · have z1 : (nI (src e) = nI u) = True:=eq_true (congrArg nI z)
      simp [e1,c1,q3,v3,z1,m5_0,m5_1u,m5_3,m5_4,m5_7,m5_10,m5_11,m5_14,m5_15,m5_16,m5_17,m5_20,m5_23,m5_24i,m5_26,m5_27,m5_30,m5_33,m5_34,m5_35,m5_36,m5_39,m5_42,m5_43,m5_46,m5_47,m5_50,m5_51,m5_52,m5_53,m5_54,m5_55,m5_56,m5_57,m5_60,m5_63,m5_64i,m5_65,m5_66u,m5_68,m5_69,m5_72,m5_75,m5_76,m5_79,m5_80,m5_81,m5_84,m5_85,m5_87,m5_90,m5_91,m5_94,m5_95,m5_96,m5_97,m5_100,m5_103,m5_106,m5_107i,m5_109,m5_110,m5_113,m5_114,m5_116,m5_119,m5_120,m5_123,m5_124,m5_125u,m5_125i,m5_125r,m5_125g,m5_127,m5_128u,m5_128i,m5_128r,m5_128g,m5_132,m5_133,m5_136,m5_139,m5_140,m5_143,m5_145,m5_146,m5_148,m5_151,m5_152,m5_154,m5_155,m5_158,m5_161,m5_162,m5_165,m5_167,m5_168u,m5_168i,m5_168r,m5_168g,m5_170,m5_171,m5_174,m5_176,m5_177,m5_178,m5_179,m5_180,m5_181,m5_182,m5_185,m5_187,m5_188,m5_191,m5_192,m5_194,m5_197,m5_198,m5_201,m5_202,m5_204,m5_205,m5_208,m5_211,m5_214,m5_217,m5_220,m5_221,m5_222,m5_225,m5_228,m5_229,m5_232,m5_233,nb0,nb1,ou_a,Option.toList_some,Option.toList_none,List.nil_append,List.cons_append]
      refine xW hx (by omega) (by omega) hK.ln ?_
      by_cases y : x e = 0
      · have y1 : (x e = 0) = True:=eq_true y
        have q4:=in4 hK.ln (i:=e) (by omega)
        have v4:=hK.ds e (by omega)
        have q15:=in15 hK.ln (i:=dst e) (by omega)
        have v15:=ht.2.1 (dst e) sd.2
        have l15:=ln15 hK.ln
        have l14:=ln14 hK.ln
        have w15 : getA (setA (A 15) (nI (dst e)) (t.1 (dst e) - 1)) (nI (dst e)) = t.1 (dst e) - 1:=by rw [cf_set (by omega) (by omega) (by omega),if_pos rfl]
        have r15 : inB (nI (dst e)) (setA (A 15) (nI (dst e)) (t.1 (dst e) - 1)):=nI_in (by rw [setA_len]; omega) (by rw [setA_len]; omega)
        have s14 : ou A 15 (setA (A 15) (nI (dst e)) (t.1 (dst e) - 1)) 14 = A 14:=by rw [ou_a,if_neg (by decide)]
        have hA1 : LN (ou A 15 (setA (A 15) (nI (dst e)) (t.1 (dst e) - 1))):=LN_set hK.ln
        by_cases w : t.1 (dst e) - 1 = 0∧t.2.2 < 32
        · have w1 : (t.1 (dst e) - 1 = 0) = True:=eq_true w.1
          have w2 : (nI t.2.2 < 32) = True:=lT (c:=32) w.2 (by decide)
          have q14:=in14 hK.ln (i:=t.2.2) w.2
          have eT : tp1 x src dst u e t = (ou t.1 (dst e) (t.1 (dst e) - 1),ou t.2.1 t.2.2 (dst e),t.2.2 + 1):=by
            unfold tp1
            rw [if_pos ⟨z,y⟩,if_pos w]
          rw [eT] at hq
          simp [y1,q4,v4,q15,v15,w15,r15,w1,w2,q14,o6,nI_1,m5_0,m5_1u,m5_3,m5_4,m5_7,m5_10,m5_11,m5_14,m5_15,m5_16,m5_17,m5_20,m5_23,m5_24i,m5_26,m5_27,m5_30,m5_33,m5_34,m5_35,m5_36,m5_39,m5_42,m5_43,m5_46,m5_47,m5_50,m5_51,m5_52,m5_53,m5_54,m5_55,m5_56,m5_57,m5_60,m5_63,m5_64i,m5_65,m5_66u,m5_68,m5_69,m5_72,m5_75,m5_76,m5_79,m5_80,m5_81,m5_84,m5_85,m5_87,m5_90,m5_91,m5_94,m5_95,m5_96,m5_97,m5_100,m5_103,m5_106,m5_107i,m5_109,m5_110,m5_113,m5_114,m5_116,m5_119,m5_120,m5_123,m5_124,m5_125u,m5_125i,m5_125r,m5_125g,m5_127,m5_128u,m5_128i,m5_128r,m5_128g,m5_132,m5_133,m5_136,m5_139,m5_140,m5_143,m5_145,m5_146,m5_148,m5_151,m5_152,m5_154,m5_155,m5_158,m5_161,m5_162,m5_165,m5_167,m5_168u,m5_168i,m5_168r,m5_168g,m5_170,m5_171,m5_174,m5_176,m5_177,m5_178,m5_179,m5_180,m5_181,m5_182,m5_185,m5_187,m5_188,m5_191,m5_192,m5_194,m5_197,m5_198,m5_201,m5_202,m5_204,m5_205,m5_208,m5_211,m5_214,m5_217,m5_220,m5_221,m5_222,m5_225,m5_228,m5_229,m5_232,m5_233,nb0,nb1,ou_a,Option.toList_some,Option.toList_none,List.nil_append,List.cons_append]
          have hL2 : LN (ou (ou A 15 (setA (A 15) (nI (dst e)) (t.1 (dst e) - 1))) 14 (setA (A 14) (nI t.2.2) (nI (dst e)))):=LN_ou hA1 (by rw [setA_len]; exact hK.ln _)
          have f2 : FT A (ou (ou A 15 (setA (A 15) (nI (dst e)) (t.1 (dst e) - 1))) 14 (setA (A 14) (nI t.2.2) (nI (dst e)))):=FT_t (FT_o (Or.inr rfl)) (FT_o (Or.inl rfl))
          refine ih (e + 1) _ (ou t.1 (dst e) (t.1 (dst e) - 1),ou t.2.1 t.2.2 (dst e),t.2.2 + 1) _ (by omega) (hK.ft hL2 f2) (hx.ft f2) ⟨hL2,?_,?_,?_,w.2,ht.2.2.2.2.2.1,?_⟩ (okS_n _) (fun l6 A' o6 f' h' => hq l6 A' o6 (FT_t f2 f') h')
          · exact CF_set ht.2.1 (by omega) (by omega) (by omega)
          · exact CN_set ht.2.2.1 (by omega) (by omega) (by have:=ht.2.2.2.2.2.1; omega)
          · exact CN_push ht.2.2.2.1 (by omega) (by omega)
          · intro i hi
            show ou t.2.1 t.2.2 (dst e) i < n
            rw [ou_a]
            split
            · exact sd.2
            · exact ht.2.2.2.2.2.2 i (by have : i < t.2.2 + 1:=hi; omega)
        · have eT : tp1 x src dst u e t = (ou t.1 (dst e) (t.1 (dst e) - 1),t.2):=by
            unfold tp1
            rw [if_pos ⟨z,y⟩,if_neg w]
          rw [eT] at hq
          have f2 : FT A (ou A 15 (setA (A 15) (nI (dst e)) (t.1 (dst e) - 1))):=FT_o (Or.inr rfl)
          have go:=ih (e + 1) (.val (.int (nI (dst e)))) (ou t.1 (dst e) (t.1 (dst e) - 1),t.2) _ (by omega) (hK.ft hA1 f2) (hx.ft f2) ⟨hA1,CF_set ht.2.1 (by omega) (by omega) (by omega),ht.2.2⟩ (okS_n _) (fun l6 A' o6 f' h' => hq l6 A' o6 (FT_t f2 f') h')
          by_cases w1 : t.1 (dst e) - 1 = 0
          · have w1' : (t.1 (dst e) - 1 = 0) = True:=eq_true w1
            have w2 : (nI t.2.2 < 32) = False:=lF (c:=32) (Nat.le_of_not_lt (fun q => w ⟨w1,q⟩)) (by have:=ht.2.2.2.2.1; omega)
            simp [y1,q4,v4,q15,v15,w15,r15,w1',w2,o6,nI_1,m5_0,m5_1u,m5_3,m5_4,m5_7,m5_10,m5_11,m5_14,m5_15,m5_16,m5_17,m5_20,m5_23,m5_24i,m5_26,m5_27,m5_30,m5_33,m5_34,m5_35,m5_36,m5_39,m5_42,m5_43,m5_46,m5_47,m5_50,m5_51,m5_52,m5_53,m5_54,m5_55,m5_56,m5_57,m5_60,m5_63,m5_64i,m5_65,m5_66u,m5_68,m5_69,m5_72,m5_75,m5_76,m5_79,m5_80,m5_81,m5_84,m5_85,m5_87,m5_90,m5_91,m5_94,m5_95,m5_96,m5_97,m5_100,m5_103,m5_106,m5_107i,m5_109,m5_110,m5_113,m5_114,m5_116,m5_119,m5_120,m5_123,m5_124,m5_125u,m5_125i,m5_125r,m5_125g,m5_127,m5_128u,m5_128i,m5_128r,m5_128g,m5_132,m5_133,m5_136,m5_139,m5_140,m5_143,m5_145,m5_146,m5_148,m5_151,m5_152,m5_154,m5_155,m5_158,m5_161,m5_162,m5_165,m5_167,m5_168u,m5_168i,m5_168r,m5_168g,m5_170,m5_171,m5_174,m5_176,m5_177,m5_178,m5_179,m5_180,m5_181,m5_182,m5_185,m5_187,m5_188,m5_191,m5_192,m5_194,m5_197,m5_198,m5_201,m5_202,m5_204,m5_205,m5_208,m5_211,m5_214,m5_217,m5_220,m5_221,m5_222,m5_225,m5_228,m5_229,m5_232,m5_233,nb0,nb1,ou_a,Option.toList_some,Option.toList_none,List.nil_append,List.cons_append]
            exact go
          · have w1' : (t.1 (dst e) - 1 = 0) = False:=eq_false w1
            simp [y1,q4,v4,q15,v15,w15,r15,w1',o6,nI_1,m5_0,m5_1u,m5_3,m5_4,m5_7,m5_10,m5_11,m5_14,m5_15,m5_16,m5_17,m5_20,m5_23,m5_24i,m5_26,m5_27,m5_30,m5_33,m5_34,m5_35,m5_36,m5_39,m5_42,m5_43,m5_46,m5_47,m5_50,m5_51,m5_52,m5_53,m5_54,m5_55,m5_56,m5_57,m5_60,m5_63,m5_64i,m5_65,m5_66u,m5_68,m5_69,m5_72,m5_75,m5_76,m5_79,m5_80,m5_81,m5_84,m5_85,m5_87,m5_90,m5_91,m5_94,m5_95,m5_96,m5_97,m5_100,m5_103,m5_106,m5_107i,m5_109,m5_110,m5_113,m5_114,m5_116,m5_119,m5_120,m5_123,m5_124,m5_125u,m5_125i,m5_125r,m5_125g,m5_127,m5_128u,m5_128i,m5_128r,m5_128g,m5_132,m5_133,m5_136,m5_139,m5_140,m5_143,m5_145,m5_146,m5_148,m5_151,m5_152,m5_154,m5_155,m5_158,m5_161,m5_162,m5_165,m5_167,m5_168u,m5_168i,m5_168r,m5_168g,m5_170,m5_171,m5_174,m5_176,m5_177,m5_178,m5_179,m5_180,m5_181,m5_182,m5_185,m5_187,m5_188,m5_191,m5_192,m5_194,m5_197,m5_198,m5_201,m5_202,m5_204,m5_205,m5_208,m5_211,m5_214,m5_217,m5_220,m5_221,m5_222,m5_225,m5_228,m5_229,m5_232,m5_233,nb0,nb1,ou_a,Option.toList_some,Option.toList_none,List.nil_append,List.cons_append]
            exact go
      · have y1 : (x e = 0) = False:=eq_false y
        have eT : tp1 x src dst u e t = t:=by
          unfold tp1
          rw [if_neg (fun q => y q.2)]
        rw [eT] at hq
        simp [y1,nI_1,m5_0,m5_1u,m5_3,m5_4,m5_7,m5_10,m5_11,m5_14,m5_15,m5_16,m5_17,m5_20,m5_23,m5_24i,m5_26,m5_27,m5_30,m5_33,m5_34,m5_35,m5_36,m5_39,m5_42,m5_43,m5_46,m5_47,m5_50,m5_51,m5_52,m5_53,m5_54,m5_55,m5_56,m5_57,m5_60,m5_63,m5_64i,m5_65,m5_66u,m5_68,m5_69,m5_72,m5_75,m5_76,m5_79,m5_80,m5_81,m5_84,m5_85,m5_87,m5_90,m5_91,m5_94,m5_95,m5_96,m5_97,m5_100,m5_103,m5_106,m5_107i,m5_109,m5_110,m5_113,m5_114,m5_116,m5_119,m5_120,m5_123,m5_124,m5_125u,m5_125i,m5_125r,m5_125g,m5_127,m5_128u,m5_128i,m5_128r,m5_128g,m5_132,m5_133,m5_136,m5_139,m5_140,m5_143,m5_145,m5_146,m5_148,m5_151,m5_152,m5_154,m5_155,m5_158,m5_161,m5_162,m5_165,m5_167,m5_168u,m5_168i,m5_168r,m5_168g,m5_170,m5_171,m5_174,m5_176,m5_177,m5_178,m5_179,m5_180,m5_181,m5_182,m5_185,m5_187,m5_188,m5_191,m5_192,m5_194,m5_197,m5_198,m5_201,m5_202,m5_204,m5_205,m5_208,m5_211,m5_214,m5_217,m5_220,m5_221,m5_222,m5_225,m5_228,m5_229,m5_232,m5_233,nb0,nb1,ou_a,Option.toList_some,Option.toList_none,List.nil_append,List.cons_append]
        exact ih (e + 1) _ _ _ (by omega) hK hx ht o6 hq
    · have z1 : (nI (src e) = nI u) = False:=eq_false (nI_ne (by omega) (by omega) z)
      have eT : tp1 x src dst u e t = t:=by
        unfold tp1
        rw [if_neg (fun q => z q.1)]
      rw [eT] at hq
      simp [e1,c1,q3,v3,z1,nI_1,m5_0,m5_1u,m5_3,m5_4,m5_7,m5_10,m5_11,m5_14,m5_15,m5_16,m5_17,m5_20,m5_23,m5_24i,m5_26,m5_27,m5_30,m5_33,m5_34,m5_35,m5_36,m5_39,m5_42,m5_43,m5_46,m5_47,m5_50,m5_51,m5_52,m5_53,m5_54,m5_55,m5_56,m5_57,m5_60,m5_63,m5_64i,m5_65,m5_66u,m5_68,m5_69,m5_72,m5_75,m5_76,m5_79,m5_80,m5_81,m5_84,m5_85,m5_87,m5_90,m5_91,m5_94,m5_95,m5_96,m5_97,m5_100,m5_103,m5_106,m5_107i,m5_109,m5_110,m5_113,m5_114,m5_116,m5_119,m5_120,m5_123,m5_124,m5_125u,m5_125i,m5_125r,m5_125g,m5_127,m5_128u,m5_128i,m5_128r,m5_128g,m5_132,m5_133,m5_136,m5_139,m5_140,m5_143,m5_145,m5_146,m5_148,m5_151,m5_152,m5_154,m5_155,m5_158,m5_161,m5_162,m5_165,m5_167,m5_168u,m5_168i,m5_168r,m5_168g,m5_170,m5_171,m5_174,m5_176,m5_177,m5_178,m5_179,m5_180,m5_181,m5_182,m5_185,m5_187,m5_188,m5_191,m5_192,m5_194,m5_197,m5_198,m5_201,m5_202,m5_204,m5_205,m5_208,m5_211,m5_214,m5_217,m5_220,m5_221,m5_222,m5_225,m5_228,m5_229,m5_232,m5_233,nb0,nb1,ou_a,Option.toList_some,Option.toList_none,List.nil_append,List.cons_append]
      exact ih (e + 1) _ _ _ (by omega) hK hx ht o6 hq
set_option maxRecDepth 1000000 in
set_option maxHeartbeats 20000000 in
theorem tH : ∀ (f h : Nat) (l4 l5 l6 : Slot) (t : TS) (A : Nat→List Int32),h + f = 32→KC n m vop vdel vk src dst reg s A→KX c m x A→TI n kn t A→okS l4→okS l5→okS l6 →
    (∀ A',FT A A'→TI n kn (tpH x src dst m f h t) A'→Q (some (.int (if (tpH x src dst m f h t).2.2 = n then 1 else 0))) (put (b + 1) pre s A' post)) →
    M5 108 [.val (.ref (b + 1)),.val (.int (nI c)),.val (.int (nI t.2.2)),.val (.int (nI h)),l4,l5,l6] [] (put (b + 1) pre s A post) Q:=by
  have fin : ∀ (t : TS) (A : Nat→List Int32) (l3 l4 l5 l6 : Slot),KC n m vop vdel vk src dst reg s A→TI n kn t A→Q (some (.int (if t.2.2 = n then 1 else 0))) (put (b + 1) pre s A post)→M5 220 [.val (.ref (b + 1)),.val (.int (nI c)),.val (.int (nI t.2.2)),l3,l4,l5,l6] [] (put (b + 1) pre s A post) Q:=by
    intro t A l3 l4 l5 l6 hK ht hq
    have e0:=hK.e0
    have n32:=hK.n32
    have t32:=ht.2.2.2.2.1
    by_cases z : t.2.2 = n
    · have z1 : (nI t.2.2 = nI n) = True:=eq_true (congrArg nI z)
      rw [if_pos z] at hq
      simp [e0,z1,m5_0,m5_1u,m5_3,m5_4,m5_7,m5_10,m5_11,m5_14,m5_15,m5_16,m5_17,m5_20,m5_23,m5_24i,m5_26,m5_27,m5_30,m5_33,m5_34,m5_35,m5_36,m5_39,m5_42,m5_43,m5_46,m5_47,m5_50,m5_51,m5_52,m5_53,m5_54,m5_55,m5_56,m5_57,m5_60,m5_63,m5_64i,m5_65,m5_66u,m5_68,m5_69,m5_72,m5_75,m5_76,m5_79,m5_80,m5_81,m5_84,m5_85,m5_87,m5_90,m5_91,m5_94,m5_95,m5_96,m5_97,m5_100,m5_103,m5_106,m5_107i,m5_109,m5_110,m5_113,m5_114,m5_116,m5_119,m5_120,m5_123,m5_124,m5_125u,m5_125i,m5_125r,m5_125g,m5_127,m5_128u,m5_128i,m5_128r,m5_128g,m5_132,m5_133,m5_136,m5_139,m5_140,m5_143,m5_145,m5_146,m5_148,m5_151,m5_152,m5_154,m5_155,m5_158,m5_161,m5_162,m5_165,m5_167,m5_168u,m5_168i,m5_168r,m5_168g,m5_170,m5_171,m5_174,m5_176,m5_177,m5_178,m5_179,m5_180,m5_181,m5_182,m5_185,m5_187,m5_188,m5_191,m5_192,m5_194,m5_197,m5_198,m5_201,m5_202,m5_204,m5_205,m5_208,m5_211,m5_214,m5_217,m5_220,m5_221,m5_222,m5_225,m5_228,m5_229,m5_232,m5_233,nb0,nb1,ou_a,Option.toList_some,Option.toList_none,List.nil_append,List.cons_append]
      exact hq
    · have z1 : (nI t.2.2 = nI n) = False:=eq_false (nI_ne (by omega) (by omega) z)
      rw [if_neg z] at hq
      simp [e0,z1,m5_0,m5_1u,m5_3,m5_4,m5_7,m5_10,m5_11,m5_14,m5_15,m5_16,m5_17,m5_20,m5_23,m5_24i,m5_26,m5_27,m5_30,m5_33,m5_34,m5_35,m5_36,m5_39,m5_42,m5_43,m5_46,m5_47,m5_50,m5_51,m5_52,m5_53,m5_54,m5_55,m5_56,m5_57,m5_60,m5_63,m5_64i,m5_65,m5_66u,m5_68,m5_69,m5_72,m5_75,m5_76,m5_79,m5_80,m5_81,m5_84,m5_85,m5_87,m5_90,m5_91,m5_94,m5_95,m5_96,m5_97,m5_100,m5_103,m5_106,m5_107i,m5_109,m5_110,m5_113,m5_114,m5_116,m5_119,m5_120,m5_123,m5_124,m5_125u,m5_125i,m5_125r,m5_125g,m5_127,m5_128u,m5_128i,m5_128r,m5_128g,m5_132,m5_133,m5_136,m5_139,m5_140,m5_143,m5_145,m5_146,m5_148,m5_151,m5_152,m5_154,m5_155,m5_158,m5_161,m5_162,m5_165,m5_167,m5_168u,m5_168i,m5_168r,m5_168g,m5_170,m5_171,m5_174,m5_176,m5_177,m5_178,m5_179,m5_180,m5_181,m5_182,m5_185,m5_187,m5_188,m5_191,m5_192,m5_194,m5_197,m5_198,m5_201,m5_202,m5_204,m5_205,m5_208,m5_211,m5_214,m5_217,m5_220,m5_221,m5_222,m5_225,m5_228,m5_229,m5_232,m5_233,nb0,nb1,ou_a,Option.toList_some,Option.toList_none,List.nil_append,List.cons_append]
      exact hq
  intro f
  induction f with
  | zero =>
    intro h l4 l5 l6 t A e hK hx ht o4 o5 o6 hq
    have c2 : (nI h < 32) = False:=lF (c:=32) (by omega) (by omega)
    have c1 : (nI h < nI t.2.2) = False:=lF (by have:=ht.2.2.2.2.1; omega) (by omega)
    rw [m5_108]
    simp [c1,c2,m5_0,m5_1u,m5_3,m5_4,m5_7,m5_10,m5_11,m5_14,m5_15,m5_16,m5_17,m5_20,m5_23,m5_24i,m5_26,m5_27,m5_30,m5_33,m5_34,m5_35,m5_36,m5_39,m5_42,m5_43,m5_46,m5_47,m5_50,m5_51,m5_52,m5_53,m5_54,m5_55,m5_56,m5_57,m5_60,m5_63,m5_64i,m5_65,m5_66u,m5_68,m5_69,m5_72,m5_75,m5_76,m5_79,m5_80,m5_81,m5_84,m5_85,m5_87,m5_90,m5_91,m5_94,m5_95,m5_96,m5_97,m5_100,m5_103,m5_106,m5_107i,m5_109,m5_110,m5_113,m5_114,m5_116,m5_119,m5_120,m5_123,m5_124,m5_125u,m5_125i,m5_125r,m5_125g,m5_127,m5_128u,m5_128i,m5_128r,m5_128g,m5_132,m5_133,m5_136,m5_139,m5_140,m5_143,m5_145,m5_146,m5_148,m5_151,m5_152,m5_154,m5_155,m5_158,m5_161,m5_162,m5_165,m5_167,m5_168u,m5_168i,m5_168r,m5_168g,m5_170,m5_171,m5_174,m5_176,m5_177,m5_178,m5_179,m5_180,m5_181,m5_182,m5_185,m5_187,m5_188,m5_191,m5_192,m5_194,m5_197,m5_198,m5_201,m5_202,m5_204,m5_205,m5_208,m5_211,m5_214,m5_217,m5_221,m5_222,m5_225,m5_228,m5_229,m5_232,m5_233,nb0,nb1,ou_a,Option.toList_some,Option.toList_none,List.nil_append,List.cons_append]
    exact fin t A _ _ _ _ hK ht (hq A (FT_r _) ht)
  | succ f ih =>
    intro h l4 l5 l6 t A e hK hx ht o4 o5 o6 hq
    have n32:=hK.n32
    have t32:=ht.2.2.2.2.1
    rw [tpH] at hq
    rw [m5_108]
    by_cases z : h < t.2.2
    · have c1 : (nI h < nI t.2.2) = True:=lT z (by omega)
      have c2 : (nI h < 32) = True:=lT (c:=32) (by omega) (by decide)
      have q14:=in14 hK.ln (i:=h) (by omega)
      have v14:=ht.2.2.2.1 h z
      have hu:=ht.2.2.2.2.2.2 h z
      rw [if_pos z] at hq
      simp [c1,c2,q14,v14,o4,o5,m5_0,m5_1u,m5_3,m5_4,m5_7,m5_10,m5_11,m5_14,m5_15,m5_16,m5_17,m5_20,m5_23,m5_24i,m5_26,m5_27,m5_30,m5_33,m5_34,m5_35,m5_36,m5_39,m5_42,m5_43,m5_46,m5_47,m5_50,m5_51,m5_52,m5_53,m5_54,m5_55,m5_56,m5_57,m5_60,m5_63,m5_64i,m5_65,m5_66u,m5_68,m5_69,m5_72,m5_75,m5_76,m5_79,m5_80,m5_81,m5_84,m5_85,m5_87,m5_90,m5_91,m5_94,m5_95,m5_96,m5_97,m5_100,m5_103,m5_106,m5_107i,m5_109,m5_110,m5_113,m5_114,m5_116,m5_119,m5_120,m5_123,m5_124,m5_125u,m5_125i,m5_125r,m5_125g,m5_127,m5_128u,m5_128i,m5_128r,m5_128g,m5_132,m5_133,m5_136,m5_139,m5_140,m5_143,m5_145,m5_146,m5_148,m5_151,m5_152,m5_154,m5_155,m5_158,m5_161,m5_162,m5_165,m5_167,m5_168u,m5_168i,m5_168r,m5_168g,m5_170,m5_171,m5_174,m5_176,m5_177,m5_178,m5_179,m5_180,m5_181,m5_182,m5_185,m5_187,m5_188,m5_191,m5_192,m5_194,m5_197,m5_198,m5_201,m5_202,m5_204,m5_205,m5_208,m5_211,m5_214,m5_217,m5_220,m5_221,m5_222,m5_225,m5_228,m5_229,m5_232,m5_233,nb0,nb1,ou_a,Option.toList_some,Option.toList_none,List.nil_append,List.cons_append]
      exact tE (by omega) m 0 _ t A (by omega) hK hx ht o6 (fun l6 A' o6 f' h' => ih (h + 1) _ _ _ _ A' (by omega) (hK.ft h'.1 f') (hx.ft f') h' (okS_n _) (okS_n _) o6 (fun A'' f'' h'' => hq A'' (FT_t f' f'') h''))
    · have c1 : (nI h < nI t.2.2) = False:=lF (by omega) (by omega)
      rw [if_neg z] at hq
      simp [c1,m5_0,m5_1u,m5_3,m5_4,m5_7,m5_10,m5_11,m5_14,m5_15,m5_16,m5_17,m5_20,m5_23,m5_24i,m5_26,m5_27,m5_30,m5_33,m5_34,m5_35,m5_36,m5_39,m5_42,m5_43,m5_46,m5_47,m5_50,m5_51,m5_52,m5_53,m5_54,m5_55,m5_56,m5_57,m5_60,m5_63,m5_64i,m5_65,m5_66u,m5_68,m5_69,m5_72,m5_75,m5_76,m5_79,m5_80,m5_81,m5_84,m5_85,m5_87,m5_90,m5_91,m5_94,m5_95,m5_96,m5_97,m5_100,m5_103,m5_106,m5_107i,m5_109,m5_110,m5_113,m5_114,m5_116,m5_119,m5_120,m5_123,m5_124,m5_125u,m5_125i,m5_125r,m5_125g,m5_127,m5_128u,m5_128i,m5_128r,m5_128g,m5_132,m5_133,m5_136,m5_139,m5_140,m5_143,m5_145,m5_146,m5_148,m5_151,m5_152,m5_154,m5_155,m5_158,m5_161,m5_162,m5_165,m5_167,m5_168u,m5_168i,m5_168r,m5_168g,m5_170,m5_171,m5_174,m5_176,m5_177,m5_178,m5_179,m5_180,m5_181,m5_182,m5_185,m5_187,m5_188,m5_191,m5_192,m5_194,m5_197,m5_198,m5_201,m5_202,m5_204,m5_205,m5_208,m5_211,m5_214,m5_217,m5_221,m5_222,m5_225,m5_228,m5_229,m5_232,m5_233,nb0,nb1,ou_a,Option.toList_some,Option.toList_none,List.nil_append,List.cons_append]
      exact fin t A _ _ _ _ hK ht (hq A (FT_r _) ht)
set_option maxRecDepth 1000000 in
set_option maxHeartbeats 20000000 in
theorem tQ {d : Nat→Int32} : ∀ (r v : Nat) (q : TQ) (A : Nat→List Int32),v + r = n→KC n m vop vdel vk src dst reg s A→KX c m x A→TI n kn (d,q) A →
    (∀ A',FT A A'→TI n kn (tpH x src dst m 32 0 (d,tpQ d r v q)) A'→Q (some (.int (if (tpH x src dst m 32 0 (d,tpQ d r v q)).2.2 = n then 1 else 0))) (put (b + 1) pre s A' post)) →
    M5 67 [.val (.ref (b + 1)),.val (.int (nI c)),.val (.int (nI q.2)),.val (.int (nI v)),.unset,.unset,.unset] [] (put (b + 1) pre s A post) Q:=by
  intro r
  induction r with
  | zero =>
    intro v q A e hK hx ht hq
    have e0:=hK.e0
    have n32:=hK.n32
    have c1 : (nI v < nI n) = False:=lF (by omega) (by omega)
    rw [m5_67]
    simp [e0,c1,m5_0,m5_1u,m5_3,m5_4,m5_7,m5_10,m5_11,m5_14,m5_15,m5_16,m5_17,m5_20,m5_23,m5_24i,m5_26,m5_27,m5_30,m5_33,m5_34,m5_35,m5_36,m5_39,m5_42,m5_43,m5_46,m5_47,m5_50,m5_51,m5_52,m5_53,m5_54,m5_55,m5_56,m5_57,m5_60,m5_63,m5_64i,m5_65,m5_66u,m5_68,m5_69,m5_72,m5_75,m5_76,m5_79,m5_80,m5_81,m5_84,m5_85,m5_87,m5_90,m5_91,m5_94,m5_95,m5_96,m5_97,m5_100,m5_103,m5_106,m5_107i,m5_109,m5_110,m5_113,m5_114,m5_116,m5_119,m5_120,m5_123,m5_124,m5_125u,m5_125i,m5_125r,m5_125g,m5_127,m5_128u,m5_128i,m5_128r,m5_128g,m5_132,m5_133,m5_136,m5_139,m5_140,m5_143,m5_145,m5_146,m5_148,m5_151,m5_152,m5_154,m5_155,m5_158,m5_161,m5_162,m5_165,m5_167,m5_168u,m5_168i,m5_168r,m5_168g,m5_170,m5_171,m5_174,m5_176,m5_177,m5_178,m5_179,m5_180,m5_181,m5_182,m5_185,m5_187,m5_188,m5_191,m5_192,m5_194,m5_197,m5_198,m5_201,m5_202,m5_204,m5_205,m5_208,m5_211,m5_214,m5_217,m5_220,m5_221,m5_222,m5_225,m5_228,m5_229,m5_232,m5_233,nb0,nb1,ou_a,Option.toList_some,Option.toList_none,List.nil_append,List.cons_append]
    exact tH 32 0 _ _ _ (d,q) A (by omega) hK hx ht okS_u okS_u okS_u hq
  | succ r ih =>
    intro v q A e hK hx ht hq
    have e0:=hK.e0
    have n32:=hK.n32
    have c1 : (nI v < nI n) = True:=lT (by omega) (by omega)
    have q15:=in15 hK.ln (i:=v) (by omega)
    have v15 : getA (A 15) (nI v) = d v:=ht.2.1 v (by omega)
    have l14:=ln14 hK.ln
    have t32 : q.2≤32:=ht.2.2.2.2.1
    rw [tpQ] at hq
    rw [m5_67]
    by_cases z : d v = 0∧q.2 < 32
    · have z1 : (d v = 0) = True:=eq_true z.1
      have z2 : (nI q.2 < 32) = True:=lT (c:=32) z.2 (by decide)
      have q14:=in14 hK.ln (i:=q.2) z.2
      rw [if_pos z] at hq
      simp [e0,c1,q15,v15,z1,z2,q14,nI_1,m5_0,m5_1u,m5_3,m5_4,m5_7,m5_10,m5_11,m5_14,m5_15,m5_16,m5_17,m5_20,m5_23,m5_24i,m5_26,m5_27,m5_30,m5_33,m5_34,m5_35,m5_36,m5_39,m5_42,m5_43,m5_46,m5_47,m5_50,m5_51,m5_52,m5_53,m5_54,m5_55,m5_56,m5_57,m5_60,m5_63,m5_64i,m5_65,m5_66u,m5_68,m5_69,m5_72,m5_75,m5_76,m5_79,m5_80,m5_81,m5_84,m5_85,m5_87,m5_90,m5_91,m5_94,m5_95,m5_96,m5_97,m5_100,m5_103,m5_106,m5_107i,m5_109,m5_110,m5_113,m5_114,m5_116,m5_119,m5_120,m5_123,m5_124,m5_125u,m5_125i,m5_125r,m5_125g,m5_127,m5_128u,m5_128i,m5_128r,m5_128g,m5_132,m5_133,m5_136,m5_139,m5_140,m5_143,m5_145,m5_146,m5_148,m5_151,m5_152,m5_154,m5_155,m5_158,m5_161,m5_162,m5_165,m5_167,m5_168u,m5_168i,m5_168r,m5_168g,m5_170,m5_171,m5_174,m5_176,m5_177,m5_178,m5_179,m5_180,m5_181,m5_182,m5_185,m5_187,m5_188,m5_191,m5_192,m5_194,m5_197,m5_198,m5_201,m5_202,m5_204,m5_205,m5_208,m5_211,m5_214,m5_217,m5_220,m5_221,m5_222,m5_225,m5_228,m5_229,m5_232,m5_233,nb0,nb1,ou_a,Option.toList_some,Option.toList_none,List.nil_append,List.cons_append]
      have hL : LN (ou A 14 (setA (A 14) (nI q.2) (nI v))):=LN_set hK.ln
      have f1 : FT A (ou A 14 (setA (A 14) (nI q.2) (nI v))):=FT_o (Or.inl rfl)
      refine ih (v + 1) (ou q.1 q.2 v,q.2 + 1) _ (by omega) (hK.ft hL f1) (hx.ft f1) ⟨hL,ht.2.1,?_,?_,z.2,ht.2.2.2.2.2.1,?_⟩ (fun A' f' h' => hq A' (FT_t f1 f') h')
      · exact CN_set ht.2.2.1 (by omega) (by omega) (by have:=ht.2.2.2.2.2.1; omega)
      · exact CN_push ht.2.2.2.1 (by omega) (by omega)
      · intro i hi
        show ou q.1 q.2 v i < n
        rw [ou_a]
        split
        · omega
        · exact ht.2.2.2.2.2.2 i (by have : i < q.2 + 1:=hi; show i < q.2; omega)
    · rw [if_neg z] at hq
      by_cases z0 : d v = 0
      · have z1 : (d v = 0) = True:=eq_true z0
        have z2 : (nI q.2 < 32) = False:=lF (c:=32) (Nat.le_of_not_lt (fun y => z ⟨z0,y⟩)) (by omega)
        simp [e0,c1,q15,v15,z1,z2,nI_1,m5_0,m5_1u,m5_3,m5_4,m5_7,m5_10,m5_11,m5_14,m5_15,m5_16,m5_17,m5_20,m5_23,m5_24i,m5_26,m5_27,m5_30,m5_33,m5_34,m5_35,m5_36,m5_39,m5_42,m5_43,m5_46,m5_47,m5_50,m5_51,m5_52,m5_53,m5_54,m5_55,m5_56,m5_57,m5_60,m5_63,m5_64i,m5_65,m5_66u,m5_68,m5_69,m5_72,m5_75,m5_76,m5_79,m5_80,m5_81,m5_84,m5_85,m5_87,m5_90,m5_91,m5_94,m5_95,m5_96,m5_97,m5_100,m5_103,m5_106,m5_107i,m5_109,m5_110,m5_113,m5_114,m5_116,m5_119,m5_120,m5_123,m5_124,m5_125u,m5_125i,m5_125r,m5_125g,m5_127,m5_128u,m5_128i,m5_128r,m5_128g,m5_132,m5_133,m5_136,m5_139,m5_140,m5_143,m5_145,m5_146,m5_148,m5_151,m5_152,m5_154,m5_155,m5_158,m5_161,m5_162,m5_165,m5_167,m5_168u,m5_168i,m5_168r,m5_168g,m5_170,m5_171,m5_174,m5_176,m5_177,m5_178,m5_179,m5_180,m5_181,m5_182,m5_185,m5_187,m5_188,m5_191,m5_192,m5_194,m5_197,m5_198,m5_201,m5_202,m5_204,m5_205,m5_208,m5_211,m5_214,m5_217,m5_220,m5_221,m5_222,m5_225,m5_228,m5_229,m5_232,m5_233,nb0,nb1,ou_a,Option.toList_some,Option.toList_none,List.nil_append,List.cons_append]
        exact ih (v + 1) _ _ (by omega) hK hx ht hq
      · have z1 : (d v = 0) = False:=eq_false z0
        simp [e0,c1,q15,v15,z1,nI_1,m5_0,m5_1u,m5_3,m5_4,m5_7,m5_10,m5_11,m5_14,m5_15,m5_16,m5_17,m5_20,m5_23,m5_24i,m5_26,m5_27,m5_30,m5_33,m5_34,m5_35,m5_36,m5_39,m5_42,m5_43,m5_46,m5_47,m5_50,m5_51,m5_52,m5_53,m5_54,m5_55,m5_56,m5_57,m5_60,m5_63,m5_64i,m5_65,m5_66u,m5_68,m5_69,m5_72,m5_75,m5_76,m5_79,m5_80,m5_81,m5_84,m5_85,m5_87,m5_90,m5_91,m5_94,m5_95,m5_96,m5_97,m5_100,m5_103,m5_106,m5_107i,m5_109,m5_110,m5_113,m5_114,m5_116,m5_119,m5_120,m5_123,m5_124,m5_125u,m5_125i,m5_125r,m5_125g,m5_127,m5_128u,m5_128i,m5_128r,m5_128g,m5_132,m5_133,m5_136,m5_139,m5_140,m5_143,m5_145,m5_146,m5_148,m5_151,m5_152,m5_154,m5_155,m5_158,m5_161,m5_162,m5_165,m5_167,m5_168u,m5_168i,m5_168r,m5_168g,m5_170,m5_171,m5_174,m5_176,m5_177,m5_178,m5_179,m5_180,m5_181,m5_182,m5_185,m5_187,m5_188,m5_191,m5_192,m5_194,m5_197,m5_198,m5_201,m5_202,m5_204,m5_205,m5_208,m5_211,m5_214,m5_217,m5_220,m5_221,m5_222,m5_225,m5_228,m5_229,m5_232,m5_233,nb0,nb1,ou_a,Option.toList_some,Option.toList_none,List.nil_append,List.cons_append]
        exact ih (v + 1) _ _ (by omega) hK hx ht hq
set_option maxRecDepth 1000000 in
set_option maxHeartbeats 20000000 in
theorem tC {o0 : Nat→Nat} : ∀ (r e : Nat) (d : Nat→Int32) (A : Nat→List Int32),e + r = m→KC n m vop vdel vk src dst reg s A→KX c m x A→CF (A 15) d n→CN (A 14) o0 kn→kn≤32 →
    (∀ A',FT A A'→TI n kn (tpH x src dst m 32 0 (tpI x dst r e d,tpQ (tpI x dst r e d) n 0 (o0,0))) A'→Q (some (.int (if (tpH x src dst m 32 0 (tpI x dst r e d,tpQ (tpI x dst r e d) n 0 (o0,0))).2.2 = n then 1 else 0))) (put (b + 1) pre s A' post)) →
    M5 25 [.val (.ref (b + 1)),.val (.int (nI c)),.val (.int (nI e)),.unset,.unset,.unset,.unset] [] (put (b + 1) pre s A post) Q:=by
  intro r
  induction r with
  | zero =>
    intro e d A er hK hx h15 h14 hkn hq
    have e1:=hK.e1
    have m64:=hK.m64
    have c1 : (nI e < nI m) = False:=lF (by omega) (by omega)
    rw [m5_25]
    simp [e1,c1,m5_0,m5_1u,m5_3,m5_4,m5_7,m5_10,m5_11,m5_14,m5_15,m5_16,m5_17,m5_20,m5_23,m5_24i,m5_26,m5_27,m5_30,m5_33,m5_34,m5_35,m5_36,m5_39,m5_42,m5_43,m5_46,m5_47,m5_50,m5_51,m5_52,m5_53,m5_54,m5_55,m5_56,m5_57,m5_60,m5_63,m5_64i,m5_65,m5_66u,m5_68,m5_69,m5_72,m5_75,m5_76,m5_79,m5_80,m5_81,m5_84,m5_85,m5_87,m5_90,m5_91,m5_94,m5_95,m5_96,m5_97,m5_100,m5_103,m5_106,m5_107i,m5_109,m5_110,m5_113,m5_114,m5_116,m5_119,m5_120,m5_123,m5_124,m5_125u,m5_125i,m5_125r,m5_125g,m5_127,m5_128u,m5_128i,m5_128r,m5_128g,m5_132,m5_133,m5_136,m5_139,m5_140,m5_143,m5_145,m5_146,m5_148,m5_151,m5_152,m5_154,m5_155,m5_158,m5_161,m5_162,m5_165,m5_167,m5_168u,m5_168i,m5_168r,m5_168g,m5_170,m5_171,m5_174,m5_176,m5_177,m5_178,m5_179,m5_180,m5_181,m5_182,m5_185,m5_187,m5_188,m5_191,m5_192,m5_194,m5_197,m5_198,m5_201,m5_202,m5_204,m5_205,m5_208,m5_211,m5_214,m5_217,m5_220,m5_221,m5_222,m5_225,m5_228,m5_229,m5_232,m5_233,nb0,nb1,ou_a,Option.toList_some,Option.toList_none,List.nil_append,List.cons_append]
    exact tQ n 0 (o0,0) A (by omega) hK hx ⟨hK.ln,h15,h14,fun i hi => absurd hi (Nat.not_lt_zero _),Nat.zero_le _,hkn,fun i hi => absurd hi (Nat.not_lt_zero _)⟩ hq
  | succ r ih =>
    intro e d A er hK hx h15 h14 hkn hq
    have e1:=hK.e1
    have m64:=hK.m64
    have n32:=hK.n32
    have sd:=hK.lt (e:=e) (by omega)
    have c1 : (nI e < nI m) = True:=lT (by omega) (by omega)
    rw [tpI] at hq
    rw [m5_25]
    simp [e1,c1,m5_0,m5_1u,m5_3,m5_4,m5_7,m5_10,m5_11,m5_14,m5_15,m5_16,m5_17,m5_20,m5_23,m5_24i,m5_26,m5_27,m5_30,m5_33,m5_34,m5_35,m5_36,m5_39,m5_42,m5_43,m5_46,m5_47,m5_50,m5_51,m5_52,m5_53,m5_54,m5_55,m5_56,m5_57,m5_60,m5_63,m5_64i,m5_65,m5_66u,m5_68,m5_69,m5_72,m5_75,m5_76,m5_79,m5_80,m5_81,m5_84,m5_85,m5_87,m5_90,m5_91,m5_94,m5_95,m5_96,m5_97,m5_100,m5_103,m5_106,m5_107i,m5_109,m5_110,m5_113,m5_114,m5_116,m5_119,m5_120,m5_123,m5_124,m5_125u,m5_125i,m5_125r,m5_125g,m5_127,m5_128u,m5_128i,m5_128r,m5_128g,m5_132,m5_133,m5_136,m5_139,m5_140,m5_143,m5_145,m5_146,m5_148,m5_151,m5_152,m5_154,m5_155,m5_158,m5_161,m5_162,m5_165,m5_167,m5_168u,m5_168i,m5_168r,m5_168g,m5_170,m5_171,m5_174,m5_176,m5_177,m5_178,m5_179,m5_180,m5_181,m5_182,m5_185,m5_187,m5_188,m5_191,m5_192,m5_194,m5_197,m5_198,m5_201,m5_202,m5_204,m5_205,m5_208,m5_211,m5_214,m5_217,m5_220,m5_221,m5_222,m5_225,m5_228,m5_229,m5_232,m5_233,nb0,nb1,ou_a,Option.toList_some,Option.toList_none,List.nil_append,List.cons_append]
    refine xW hx (by omega) (by omega) hK.ln ?_
    by_cases y : x e = 0
    · have y1 : (x e = 0) = True:=eq_true y
      have q4:=in4 hK.ln (i:=e) (by omega)
      have v4:=hK.ds e (by omega)
      have q15:=in15 hK.ln (i:=dst e) (by omega)
      have v15:=h15 (dst e) sd.2
      have l15:=ln15 hK.ln
      rw [if_pos y] at hq
      simp [y1,q4,v4,q15,v15,nI_1,m5_0,m5_1u,m5_3,m5_4,m5_7,m5_10,m5_11,m5_14,m5_15,m5_16,m5_17,m5_20,m5_23,m5_24i,m5_26,m5_27,m5_30,m5_33,m5_34,m5_35,m5_36,m5_39,m5_42,m5_43,m5_46,m5_47,m5_50,m5_51,m5_52,m5_53,m5_54,m5_55,m5_56,m5_57,m5_60,m5_63,m5_64i,m5_65,m5_66u,m5_68,m5_69,m5_72,m5_75,m5_76,m5_79,m5_80,m5_81,m5_84,m5_85,m5_87,m5_90,m5_91,m5_94,m5_95,m5_96,m5_97,m5_100,m5_103,m5_106,m5_107i,m5_109,m5_110,m5_113,m5_114,m5_116,m5_119,m5_120,m5_123,m5_124,m5_125u,m5_125i,m5_125r,m5_125g,m5_127,m5_128u,m5_128i,m5_128r,m5_128g,m5_132,m5_133,m5_136,m5_139,m5_140,m5_143,m5_145,m5_146,m5_148,m5_151,m5_152,m5_154,m5_155,m5_158,m5_161,m5_162,m5_165,m5_167,m5_168u,m5_168i,m5_168r,m5_168g,m5_170,m5_171,m5_174,m5_176,m5_177,m5_178,m5_179,m5_180,m5_181,m5_182,m5_185,m5_187,m5_188,m5_191,m5_192,m5_194,m5_197,m5_198,m5_201,m5_202,m5_204,m5_205,m5_208,m5_211,m5_214,m5_217,m5_220,m5_221,m5_222,m5_225,m5_228,m5_229,m5_232,m5_233,nb0,nb1,ou_a,Option.toList_some,Option.toList_none,List.nil_append,List.cons_append]
      have hL : LN (ou A 15 (setA (A 15) (nI (dst e)) (d (dst e) + 1))):=LN_set hK.ln
      have f1 : FT A (ou A 15 (setA (A 15) (nI (dst e)) (d (dst e) + 1))):=FT_o (Or.inr rfl)
      exact ih (e + 1) _ _ (by omega) (hK.ft hL f1) (hx.ft f1) (CF_set h15 (by omega) (by omega) (by omega)) h14 hkn (fun A' f' h' => hq A' (FT_t f1 f') h')
    · have y1 : (x e = 0) = False:=eq_false y
      rw [if_neg y] at hq
      simp [y1,nI_1,m5_0,m5_1u,m5_3,m5_4,m5_7,m5_10,m5_11,m5_14,m5_15,m5_16,m5_17,m5_20,m5_23,m5_24i,m5_26,m5_27,m5_30,m5_33,m5_34,m5_35,m5_36,m5_39,m5_42,m5_43,m5_46,m5_47,m5_50,m5_51,m5_52,m5_53,m5_54,m5_55,m5_56,m5_57,m5_60,m5_63,m5_64i,m5_65,m5_66u,m5_68,m5_69,m5_72,m5_75,m5_76,m5_79,m5_80,m5_81,m5_84,m5_85,m5_87,m5_90,m5_91,m5_94,m5_95,m5_96,m5_97,m5_100,m5_103,m5_106,m5_107i,m5_109,m5_110,m5_113,m5_114,m5_116,m5_119,m5_120,m5_123,m5_124,m5_125u,m5_125i,m5_125r,m5_125g,m5_127,m5_128u,m5_128i,m5_128r,m5_128g,m5_132,m5_133,m5_136,m5_139,m5_140,m5_143,m5_145,m5_146,m5_148,m5_151,m5_152,m5_154,m5_155,m5_158,m5_161,m5_162,m5_165,m5_167,m5_168u,m5_168i,m5_168r,m5_168g,m5_170,m5_171,m5_174,m5_176,m5_177,m5_178,m5_179,m5_180,m5_181,m5_182,m5_185,m5_187,m5_188,m5_191,m5_192,m5_194,m5_197,m5_198,m5_201,m5_202,m5_204,m5_205,m5_208,m5_211,m5_214,m5_217,m5_220,m5_221,m5_222,m5_225,m5_228,m5_229,m5_232,m5_233,nb0,nb1,ou_a,Option.toList_some,Option.toList_none,List.nil_append,List.cons_append]
      exact ih (e + 1) _ _ (by omega) hK hx h15 h14 hkn hq
set_option maxRecDepth 1000000 in
set_option maxHeartbeats 20000000 in
theorem tZ {o0 : Nat→Nat} : ∀ (r i : Nat) (A : Nat→List Int32),i + r = n→KC n m vop vdel vk src dst reg s A→KX c m x A→CF (A 15) (fun _ => 0) i→CN (A 14) o0 kn→kn≤32 →
    (∀ A',LN A'→FT A A'→CN (A' 14) (topo n m x src dst o0).1 kn→CN (A' 14) (topo n m x src dst o0).1 (topo n m x src dst o0).2→Q (some (.int (if (topo n m x src dst o0).2 = n then 1 else 0))) (put (b + 1) pre s A' post)) →
    M5 2 [.val (.ref (b + 1)),.val (.int (nI c)),.val (.int (nI i)),.unset,.unset,.unset,.unset] [] (put (b + 1) pre s A post) Q:=by
  intro r
  induction r with
  | zero =>
    intro i A e hK hx h15 h14 hkn hq
    have e0:=hK.e0
    have n32:=hK.n32
    obtain rfl : i = n:=by omega
    have c1 : (nI i < nI i) = False:=lF (by omega) (by omega)
    rw [m5_2]
    simp [e0,c1,m5_0,m5_1u,m5_3,m5_4,m5_7,m5_10,m5_11,m5_14,m5_15,m5_16,m5_17,m5_20,m5_23,m5_24i,m5_26,m5_27,m5_30,m5_33,m5_34,m5_35,m5_36,m5_39,m5_42,m5_43,m5_46,m5_47,m5_50,m5_51,m5_52,m5_53,m5_54,m5_55,m5_56,m5_57,m5_60,m5_63,m5_64i,m5_65,m5_66u,m5_68,m5_69,m5_72,m5_75,m5_76,m5_79,m5_80,m5_81,m5_84,m5_85,m5_87,m5_90,m5_91,m5_94,m5_95,m5_96,m5_97,m5_100,m5_103,m5_106,m5_107i,m5_109,m5_110,m5_113,m5_114,m5_116,m5_119,m5_120,m5_123,m5_124,m5_125u,m5_125i,m5_125r,m5_125g,m5_127,m5_128u,m5_128i,m5_128r,m5_128g,m5_132,m5_133,m5_136,m5_139,m5_140,m5_143,m5_145,m5_146,m5_148,m5_151,m5_152,m5_154,m5_155,m5_158,m5_161,m5_162,m5_165,m5_167,m5_168u,m5_168i,m5_168r,m5_168g,m5_170,m5_171,m5_174,m5_176,m5_177,m5_178,m5_179,m5_180,m5_181,m5_182,m5_185,m5_187,m5_188,m5_191,m5_192,m5_194,m5_197,m5_198,m5_201,m5_202,m5_204,m5_205,m5_208,m5_211,m5_214,m5_217,m5_220,m5_221,m5_222,m5_225,m5_228,m5_229,m5_232,m5_233,nb0,nb1,ou_a,Option.toList_some,Option.toList_none,List.nil_append,List.cons_append]
    exact tC m 0 _ A (by omega) hK hx h15 h14 hkn (fun A' f' h' => hq A' h'.1 f' h'.2.2.1 h'.2.2.2.1)
  | succ r ih =>
    intro i A e hK hx h15 h14 hkn hq
    have e0:=hK.e0
    have n32:=hK.n32
    have c1 : (nI i < nI n) = True:=lT (by omega) (by omega)
    have q15:=in15 hK.ln (i:=i) (by omega)
    have l15:=ln15 hK.ln
    rw [m5_2]
    simp [e0,c1,q15,nI_1,m5_0,m5_1u,m5_3,m5_4,m5_7,m5_10,m5_11,m5_14,m5_15,m5_16,m5_17,m5_20,m5_23,m5_24i,m5_26,m5_27,m5_30,m5_33,m5_34,m5_35,m5_36,m5_39,m5_42,m5_43,m5_46,m5_47,m5_50,m5_51,m5_52,m5_53,m5_54,m5_55,m5_56,m5_57,m5_60,m5_63,m5_64i,m5_65,m5_66u,m5_68,m5_69,m5_72,m5_75,m5_76,m5_79,m5_80,m5_81,m5_84,m5_85,m5_87,m5_90,m5_91,m5_94,m5_95,m5_96,m5_97,m5_100,m5_103,m5_106,m5_107i,m5_109,m5_110,m5_113,m5_114,m5_116,m5_119,m5_120,m5_123,m5_124,m5_125u,m5_125i,m5_125r,m5_125g,m5_127,m5_128u,m5_128i,m5_128r,m5_128g,m5_132,m5_133,m5_136,m5_139,m5_140,m5_143,m5_145,m5_146,m5_148,m5_151,m5_152,m5_154,m5_155,m5_158,m5_161,m5_162,m5_165,m5_167,m5_168u,m5_168i,m5_168r,m5_168g,m5_170,m5_171,m5_174,m5_176,m5_177,m5_178,m5_179,m5_180,m5_181,m5_182,m5_185,m5_187,m5_188,m5_191,m5_192,m5_194,m5_197,m5_198,m5_201,m5_202,m5_204,m5_205,m5_208,m5_211,m5_214,m5_217,m5_220,m5_221,m5_222,m5_225,m5_228,m5_229,m5_232,m5_233,nb0,nb1,ou_a,Option.toList_some,Option.toList_none,List.nil_append,List.cons_append]
    have hL : LN (ou A 15 (setA (A 15) (nI i) 0)):=LN_set hK.ln
    have f1 : FT A (ou A 15 (setA (A 15) (nI i) 0)):=FT_o (Or.inr rfl)
    refine ih (i + 1) _ (by omega) (hK.ft hL f1) (hx.ft f1) (fun j hj => ?_) h14 hkn (fun A' l' f' h' h'' => hq A' l' (FT_t f1 f') h' h'')
    show getA (setA (A 15) _ _) _ = _
    rw [cf_set (by omega) (by omega) (by omega)]
    split
    · rfl
    · exact h15 j (by omega)
theorem tW {o0 : Nat→Nat} (hK : KC n m vop vdel vk src dst reg s A) (hx : KX c m x A) (h14 : CN (A 14) o0 kn) (hkn : kn≤32) (hq : ∀ A',LN A'→FT A A'→CN (A' 14) (topo n m x src dst o0).1 kn→CN (A' 14) (topo n m x src dst o0).1 (topo n m x src dst o0).2→Q (some (.int (if (topo n m x src dst o0).2 = n then 1 else 0))) (put (b + 1) pre s A' post)) :
    M5 0 [.val (.ref (b + 1)),.val (.int (nI c)),.unset,.unset,.unset,.unset,.unset] [] (put (b + 1) pre s A post) Q:=by
  simp [m5_0,m5_1u,m5_3,m5_4,m5_7,m5_10,m5_11,m5_14,m5_15,m5_16,m5_17,m5_20,m5_23,m5_24i,m5_26,m5_27,m5_30,m5_33,m5_34,m5_35,m5_36,m5_39,m5_42,m5_43,m5_46,m5_47,m5_50,m5_51,m5_52,m5_53,m5_54,m5_55,m5_56,m5_57,m5_60,m5_63,m5_64i,m5_65,m5_66u,m5_68,m5_69,m5_72,m5_75,m5_76,m5_79,m5_80,m5_81,m5_84,m5_85,m5_87,m5_90,m5_91,m5_94,m5_95,m5_96,m5_97,m5_100,m5_103,m5_106,m5_107i,m5_109,m5_110,m5_113,m5_114,m5_116,m5_119,m5_120,m5_123,m5_124,m5_125u,m5_125i,m5_125r,m5_125g,m5_127,m5_128u,m5_128i,m5_128r,m5_128g,m5_132,m5_133,m5_136,m5_139,m5_140,m5_143,m5_145,m5_146,m5_148,m5_151,m5_152,m5_154,m5_155,m5_158,m5_161,m5_162,m5_165,m5_167,m5_168u,m5_168i,m5_168r,m5_168g,m5_170,m5_171,m5_174,m5_176,m5_177,m5_178,m5_179,m5_180,m5_181,m5_182,m5_185,m5_187,m5_188,m5_191,m5_192,m5_194,m5_197,m5_198,m5_201,m5_202,m5_204,m5_205,m5_208,m5_211,m5_214,m5_217,m5_220,m5_221,m5_222,m5_225,m5_228,m5_229,m5_232,m5_233,nb0,nb1,ou_a,Option.toList_some,Option.toList_none,List.nil_append,List.cons_append]
  exact tZ n 0 A (by omega) hK hx (fun i hi => absurd hi (by omega)) h14 hkn hq
set_option maxRecDepth 1000000 in
set_option maxHeartbeats 20000000 in
theorem peEW {arr : Nat→Int32} {v : Nat} {l2 l3 : Slot} (hK : KC n m vop vdel vk src dst reg s A) (hx : KX c m x A) (hv : v < n) (hR : ∀ e,e < m→dst e = v→x e = 0→getA (A 16) (nI (src e)) = arr (src e)) : ∀ (r e : Nat) (a : Int32) (l7 : Slot),e + r = m→okS l7 →
    (∀ l7,okS l7→M6 102 [.val (.ref (b + 1)),.val (.int (nI c)),l2,l3,.val (.int (nI v)),.val (.int (peE x vdel arr src dst v r e a)),.val (.int (nI m)),l7] [] (put (b + 1) pre s A post) Q) →
    M6 32 [.val (.ref (b + 1)),.val (.int (nI c)),l2,l3,.val (.int (nI v)),.val (.int (a)),.val (.int (nI e)),l7] [] (put (b + 1) pre s A post) Q:=by
  have e1:=hK.e1
  have m64:=hK.m64
  have n32:=hK.n32
  intro r
  induction r with
  | zero =>
    intro e a l7 er o7 hq
    obtain rfl : e = m:=by omega
    have c1 : (nI e < nI e) = False:=lF (by omega) (by omega)
    rw [m6_32]
    simp [e1,c1,m6_0,m6_1u,m6_2,m6_3u,m6_5,m6_6,m6_9,m6_12,m6_13,m6_16,m6_17,m6_18u,m6_18i,m6_18r,m6_18g,m6_20,m6_21,m6_24,m6_26,m6_27u,m6_27i,m6_27r,m6_27g,m6_29,m6_30u,m6_30i,m6_30r,m6_30g,m6_34,m6_35,m6_38,m6_41,m6_42,m6_45,m6_47,m6_48,m6_50,m6_53,m6_54,m6_56,m6_57,m6_60,m6_63,m6_64,m6_67,m6_68,m6_71,m6_73,m6_74,m6_75,m6_76,m6_79,m6_81,m6_82,m6_83u,m6_83i,m6_83r,m6_83g,m6_85,m6_87,m6_89,m6_92,m6_94i,m6_96,m6_99,m6_103,m6_106,m6_108,m6_110,m6_111,m6_113,m6_114,m6_117,m6_119i,m6_120,m6_123,m6_126,m6_127,nb0,nb1,ou_a,Option.toList_some,Option.toList_none,List.nil_append,List.cons_append]
    exact hq _ o7
  | succ r ih =>
    intro e a l7 er o7 hq
    have sd:=hK.lt (e:=e) (by omega)
    have c1 : (nI e < nI m) = True:=lT (by omega) (by omega)
    have q4:=in4 hK.ln (i:=e) (by omega)
    have v4:=hK.ds e (by omega)
    rw [peE] at hq
    rw [m6_32]
    by_cases z : dst e = v
    · have z1 : (nI (dst e) = nI v) = True:=eq_true (congrArg nI z)
      simp [e1,c1,q4,v4,z1,m6_0,m6_1u,m6_2,m6_3u,m6_5,m6_6,m6_9,m6_12,m6_13,m6_16,m6_17,m6_18u,m6_18i,m6_18r,m6_18g,m6_20,m6_21,m6_24,m6_26,m6_27u,m6_27i,m6_27r,m6_27g,m6_29,m6_30u,m6_30i,m6_30r,m6_30g,m6_34,m6_35,m6_38,m6_41,m6_42,m6_45,m6_47,m6_48,m6_50,m6_53,m6_54,m6_56,m6_57,m6_60,m6_63,m6_64,m6_67,m6_68,m6_71,m6_73,m6_74,m6_75,m6_76,m6_79,m6_81,m6_82,m6_83u,m6_83i,m6_83r,m6_83g,m6_85,m6_87,m6_89,m6_92,m6_94i,m6_96,m6_99,m6_102,m6_103,m6_106,m6_108,m6_110,m6_111,m6_113,m6_114,m6_117,m6_119i,m6_120,m6_123,m6_126,m6_127,nb0,nb1,ou_a,Option.toList_some,Option.toList_none,List.nil_append,List.cons_append]
      refine xW hx (by omega) (by omega) hK.ln ?_
      by_cases y : x e = 0
      · have y1 : (x e = 0) = True:=eq_true y
        have q3:=in3 hK.ln (i:=e) (by omega)
        have v3:=hK.sr e (by omega)
        have q16:=in16 hK.ln (i:=src e) (by omega)
        have v16:=hR e (by omega) z y
        have q1:=in1 hK.ln (i:=v) (by omega)
        have v1:=hK.vd v hv
        rw [if_pos ⟨z,y⟩] at hq
        by_cases w : a < arr (src e) + vdel v
        · rw [if_pos w] at hq
          have w1:=eq_true w
          simp [y1,q3,v3,q16,v16,q1,v1,w1,o7,nI_1,m6_0,m6_1u,m6_2,m6_3u,m6_5,m6_6,m6_9,m6_12,m6_13,m6_16,m6_17,m6_18u,m6_18i,m6_18r,m6_18g,m6_20,m6_21,m6_24,m6_26,m6_27u,m6_27i,m6_27r,m6_27g,m6_29,m6_30u,m6_30i,m6_30r,m6_30g,m6_34,m6_35,m6_38,m6_41,m6_42,m6_45,m6_47,m6_48,m6_50,m6_53,m6_54,m6_56,m6_57,m6_60,m6_63,m6_64,m6_67,m6_68,m6_71,m6_73,m6_74,m6_75,m6_76,m6_79,m6_81,m6_82,m6_83u,m6_83i,m6_83r,m6_83g,m6_85,m6_87,m6_89,m6_92,m6_94i,m6_96,m6_99,m6_102,m6_103,m6_106,m6_108,m6_110,m6_111,m6_113,m6_114,m6_117,m6_119i,m6_120,m6_123,m6_126,m6_127,nb0,nb1,ou_a,Option.toList_some,Option.toList_none,List.nil_append,List.cons_append]
          exact ih (e + 1) _ _ (by omega) (okS_i _) hq
        · rw [if_neg w] at hq
          have w1:=eq_false w
          simp [y1,q3,v3,q16,v16,q1,v1,w1,o7,nI_1,m6_0,m6_1u,m6_2,m6_3u,m6_5,m6_6,m6_9,m6_12,m6_13,m6_16,m6_17,m6_18u,m6_18i,m6_18r,m6_18g,m6_20,m6_21,m6_24,m6_26,m6_27u,m6_27i,m6_27r,m6_27g,m6_29,m6_30u,m6_30i,m6_30r,m6_30g,m6_34,m6_35,m6_38,m6_41,m6_42,m6_45,m6_47,m6_48,m6_50,m6_53,m6_54,m6_56,m6_57,m6_60,m6_63,m6_64,m6_67,m6_68,m6_71,m6_73,m6_74,m6_75,m6_76,m6_79,m6_81,m6_82,m6_83u,m6_83i,m6_83r,m6_83g,m6_85,m6_87,m6_89,m6_92,m6_94i,m6_96,m6_99,m6_102,m6_103,m6_106,m6_108,m6_110,m6_111,m6_113,m6_114,m6_117,m6_119i,m6_120,m6_123,m6_126,m6_127,nb0,nb1,ou_a,Option.toList_some,Option.toList_none,List.nil_append,List.cons_append]
          exact ih (e + 1) _ _ (by omega) (okS_i _) hq
      · have y1 : (x e = 0) = False:=eq_false y
        rw [if_neg (fun q => y q.2)] at hq
        simp [y1,nI_1,m6_0,m6_1u,m6_2,m6_3u,m6_5,m6_6,m6_9,m6_12,m6_13,m6_16,m6_17,m6_18u,m6_18i,m6_18r,m6_18g,m6_20,m6_21,m6_24,m6_26,m6_27u,m6_27i,m6_27r,m6_27g,m6_29,m6_30u,m6_30i,m6_30r,m6_30g,m6_34,m6_35,m6_38,m6_41,m6_42,m6_45,m6_47,m6_48,m6_50,m6_53,m6_54,m6_56,m6_57,m6_60,m6_63,m6_64,m6_67,m6_68,m6_71,m6_73,m6_74,m6_75,m6_76,m6_79,m6_81,m6_82,m6_83u,m6_83i,m6_83r,m6_83g,m6_85,m6_87,m6_89,m6_92,m6_94i,m6_96,m6_99,m6_102,m6_103,m6_106,m6_108,m6_110,m6_111,m6_113,m6_114,m6_117,m6_119i,m6_120,m6_123,m6_126,m6_127,nb0,nb1,ou_a,Option.toList_some,Option.toList_none,List.nil_append,List.cons_append]
        exact ih (e + 1) _ _ (by omega) o7 hq
    · have z1 : (nI (dst e) = nI v) = False:=eq_false (nI_ne (by omega) (by omega) z)
      rw [if_neg (fun q => z q.1)] at hq
      simp [e1,c1,q4,v4,z1,nI_1,m6_0,m6_1u,m6_2,m6_3u,m6_5,m6_6,m6_9,m6_12,m6_13,m6_16,m6_17,m6_18u,m6_18i,m6_18r,m6_18g,m6_20,m6_21,m6_24,m6_26,m6_27u,m6_27i,m6_27r,m6_27g,m6_29,m6_30u,m6_30i,m6_30r,m6_30g,m6_34,m6_35,m6_38,m6_41,m6_42,m6_45,m6_47,m6_48,m6_50,m6_53,m6_54,m6_56,m6_57,m6_60,m6_63,m6_64,m6_67,m6_68,m6_71,m6_73,m6_74,m6_75,m6_76,m6_79,m6_81,m6_82,m6_83u,m6_83i,m6_83r,m6_83g,m6_85,m6_87,m6_89,m6_92,m6_94i,m6_96,m6_99,m6_102,m6_103,m6_106,m6_108,m6_110,m6_111,m6_113,m6_114,m6_117,m6_119i,m6_120,m6_123,m6_126,m6_127,nb0,nb1,ou_a,Option.toList_some,Option.toList_none,List.nil_append,List.cons_append]
      exact ih (e + 1) _ _ (by omega) o7 hq
set_option maxRecDepth 1000000 in
set_option maxHeartbeats 20000000 in
theorem peIW {o : Nat→Nat} {kp : Nat→Prop} (ho : ∀ i,i < n→o i < n) (hT : ∀ i e,i < n→e < m→dst e = o i→x e = 0→kp (src e) ∨ ∃ j,j < i∧o j = src e) : ∀ (r i : Nat) (l4 l5 l6 l7 : Slot) (t : (Nat→Int32) × Int32) (A : Nat→List Int32),i + r = n→KC n m vop vdel vk src dst reg s A→KX c m x A→CN (A 14) o n→(∀ v,v < n→(kp v ∨ ∃ j,j < i∧o j = v)→getA (A 16) (nI v) = t.1 v)→okS l4→okS l5→okS l6→okS l7 →
    (∀ A',LN A'→(∀ k,k ≠ 16→A' k = A k)→(∀ v,v < n→(kp v ∨ ∃ j,j < n∧o j = v)→getA (A' 16) (nI v) = (peI m x vdel src dst o r i t).1 v)→Q (some (.int (peI m x vdel src dst o r i t).2)) (put (b + 1) pre s A' post)) →
    M6 4 [.val (.ref (b + 1)),.val (.int (nI c)),.val (.int (t.2)),.val (.int (nI i)),l4,l5,l6,l7] [] (put (b + 1) pre s A post) Q:=by
  intro r
  induction r with
  | zero =>
    intro i l4 l5 l6 l7 t A e hK hx h14 h16 o4 o5 o6 o7 hq
    have e0:=hK.e0
    have n32:=hK.n32
    obtain rfl : i = n:=by omega
    have c1 : (nI i < nI i) = False:=lF (by omega) (by omega)
    rw [m6_4]
    simp [e0,c1,m6_0,m6_1u,m6_2,m6_3u,m6_5,m6_6,m6_9,m6_12,m6_13,m6_16,m6_17,m6_18u,m6_18i,m6_18r,m6_18g,m6_20,m6_21,m6_24,m6_26,m6_27u,m6_27i,m6_27r,m6_27g,m6_29,m6_30u,m6_30i,m6_30r,m6_30g,m6_34,m6_35,m6_38,m6_41,m6_42,m6_45,m6_47,m6_48,m6_50,m6_53,m6_54,m6_56,m6_57,m6_60,m6_63,m6_64,m6_67,m6_68,m6_71,m6_73,m6_74,m6_75,m6_76,m6_79,m6_81,m6_82,m6_83u,m6_83i,m6_83r,m6_83g,m6_85,m6_87,m6_89,m6_92,m6_94i,m6_96,m6_99,m6_102,m6_103,m6_106,m6_108,m6_110,m6_111,m6_113,m6_114,m6_117,m6_119i,m6_120,m6_123,m6_126,m6_127,nb0,nb1,ou_a,Option.toList_some,Option.toList_none,List.nil_append,List.cons_append]
    exact hq A hK.ln (fun _ _ => rfl) h16
  | succ r ih =>
    intro i l4 l5 l6 l7 t A e hK hx h14 h16 o4 o5 o6 o7 hq
    have e0:=hK.e0
    have n32:=hK.n32
    have c1 : (nI i < nI n) = True:=lT (by omega) (by omega)
    have q14:=in14 hK.ln (i:=i) (by omega)
    have v14:=h14 i (by omega)
    have hv:=ho i (by omega)
    have q1:=in1 hK.ln (i:=o i) (by omega)
    have v1:=hK.vd (o i) hv
    have q16:=in16 hK.ln (i:=o i) (by omega)
    have l16:=ln16 hK.ln
    rw [peI] at hq
    rw [m6_4]
    simp [e0,c1,q14,v14,q1,v1,o4,o5,o6,m6_0,m6_1u,m6_2,m6_3u,m6_5,m6_6,m6_9,m6_12,m6_13,m6_16,m6_17,m6_18u,m6_18i,m6_18r,m6_18g,m6_20,m6_21,m6_24,m6_26,m6_27u,m6_27i,m6_27r,m6_27g,m6_29,m6_30u,m6_30i,m6_30r,m6_30g,m6_34,m6_35,m6_38,m6_41,m6_42,m6_45,m6_47,m6_48,m6_50,m6_53,m6_54,m6_56,m6_57,m6_60,m6_63,m6_64,m6_67,m6_68,m6_71,m6_73,m6_74,m6_75,m6_76,m6_79,m6_81,m6_82,m6_83u,m6_83i,m6_83r,m6_83g,m6_85,m6_87,m6_89,m6_92,m6_94i,m6_96,m6_99,m6_102,m6_103,m6_106,m6_108,m6_110,m6_111,m6_113,m6_114,m6_117,m6_119i,m6_120,m6_123,m6_126,m6_127,nb0,nb1,ou_a,Option.toList_some,Option.toList_none,List.nil_append,List.cons_append]
    refine peEW hK hx hv (fun e he hd hz => h16 _ (hK.lt he).1 (hT i e (by omega) he hd hz)) m 0 (vdel (o i)) _ (by omega) o7 (fun l7 o7 => ?_)
    have hL : LN (ou A 16 (setA (A 16) (nI (o i)) (peE x vdel t.1 src dst (o i) m 0 (vdel (o i))))):=LN_set hK.ln
    have f1 : ∀ k,k ≠ 16→ou A 16 (setA (A 16) (nI (o i)) (peE x vdel t.1 src dst (o i) m 0 (vdel (o i)))) k = A k:=fun k hk => by rw [ou_a,if_neg hk]
    have h16' : ∀ v,v < n→(kp v ∨ ∃ j,j < i + 1∧o j = v)→getA (ou A 16 (setA (A 16) (nI (o i)) (peE x vdel t.1 src dst (o i) m 0 (vdel (o i)))) 16) (nI v) = ou t.1 (o i) (peE x vdel t.1 src dst (o i) m 0 (vdel (o i))) v:=by
      intro v hvn hk
      show getA (setA (A 16) _ _) _ = _
      rw [cf_set (by omega) (by omega) (by omega),ou_a]
      by_cases z : v = o i
      · rw [if_pos z,if_pos z]
      · rw [if_neg z,if_neg z]
        refine h16 v hvn (hk.imp id (fun ⟨j,hj,e⟩ => ⟨j,?_,e⟩))
        have : j ≠ i:=fun q => z (by rw [← e,q])
        omega
    generalize peE x vdel t.1 src dst (o i) m 0 (vdel (o i)) = a at *
    have hK':=hK.ar hL (fun k hk => f1 k (by omega))
    have hx':=hx.ar (f1 5 (by decide)) (f1 6 (by decide))
    by_cases w : t.2 < a
    · have w1:=eq_true w
      rw [if_pos w] at hq
      simp [q16,w1,nI_1,m6_0,m6_1u,m6_2,m6_3u,m6_5,m6_6,m6_9,m6_12,m6_13,m6_16,m6_17,m6_18u,m6_18i,m6_18r,m6_18g,m6_20,m6_21,m6_24,m6_26,m6_27u,m6_27i,m6_27r,m6_27g,m6_29,m6_30u,m6_30i,m6_30r,m6_30g,m6_34,m6_35,m6_38,m6_41,m6_42,m6_45,m6_47,m6_48,m6_50,m6_53,m6_54,m6_56,m6_57,m6_60,m6_63,m6_64,m6_67,m6_68,m6_71,m6_73,m6_74,m6_75,m6_76,m6_79,m6_81,m6_82,m6_83u,m6_83i,m6_83r,m6_83g,m6_85,m6_87,m6_89,m6_92,m6_94i,m6_96,m6_99,m6_102,m6_103,m6_106,m6_108,m6_110,m6_111,m6_113,m6_114,m6_117,m6_119i,m6_120,m6_123,m6_126,m6_127,nb0,nb1,ou_a,Option.toList_some,Option.toList_none,List.nil_append,List.cons_append]
      exact ih (i + 1) _ _ _ _ (ou t.1 (o i) a,a) _ (by omega) hK' hx' h14 h16' (okS_n _) (okS_i _) (okS_n _) o7 (fun A' l' f' h' => hq A' l' (fun k hk => (f' k hk).trans (f1 k hk)) h')
    · have w1:=eq_false w
      rw [if_neg w] at hq
      simp [q16,w1,nI_1,m6_0,m6_1u,m6_2,m6_3u,m6_5,m6_6,m6_9,m6_12,m6_13,m6_16,m6_17,m6_18u,m6_18i,m6_18r,m6_18g,m6_20,m6_21,m6_24,m6_26,m6_27u,m6_27i,m6_27r,m6_27g,m6_29,m6_30u,m6_30i,m6_30r,m6_30g,m6_34,m6_35,m6_38,m6_41,m6_42,m6_45,m6_47,m6_48,m6_50,m6_53,m6_54,m6_56,m6_57,m6_60,m6_63,m6_64,m6_67,m6_68,m6_71,m6_73,m6_74,m6_75,m6_76,m6_79,m6_81,m6_82,m6_83u,m6_83i,m6_83r,m6_83g,m6_85,m6_87,m6_89,m6_92,m6_94i,m6_96,m6_99,m6_102,m6_103,m6_106,m6_108,m6_110,m6_111,m6_113,m6_114,m6_117,m6_119i,m6_120,m6_123,m6_126,m6_127,nb0,nb1,ou_a,Option.toList_some,Option.toList_none,List.nil_append,List.cons_append]
      exact ih (i + 1) _ _ _ _ (ou t.1 (o i) a,t.2) _ (by omega) hK' hx' h14 h16' (okS_n _) (okS_i _) (okS_n _) o7 (fun A' l' f' h' => hq A' l' (fun k hk => (f' k hk).trans (f1 k hk)) h')
theorem peW {o : Nat→Nat} {kp : Nat→Prop} {arr : Nat→Int32} (ho : ∀ i,i < n→o i < n) (hT : ∀ i e,i < n→e < m→dst e = o i→x e = 0→kp (src e) ∨ ∃ j,j < i∧o j = src e) (hK : KC n m vop vdel vk src dst reg s A) (hx : KX c m x A) (h14 : CN (A 14) o n) (h16 : ∀ v,v < n→kp v→getA (A 16) (nI v) = arr v)
    (hq : ∀ A',LN A'→(∀ k,k ≠ 16→A' k = A k)→(∀ v,v < n→(kp v ∨ ∃ j,j < n∧o j = v)→getA (A' 16) (nI v) = (peI m x vdel src dst o n 0 (arr,0)).1 v)→Q (some (.int (peI m x vdel src dst o n 0 (arr,0)).2)) (put (b + 1) pre s A' post)) :
    M6 0 [.val (.ref (b + 1)),.val (.int (nI c)),.unset,.unset,.unset,.unset,.unset,.unset] [] (put (b + 1) pre s A post) Q:=by
  simp [m6_0,m6_1u,m6_2,m6_3u,m6_5,m6_6,m6_9,m6_12,m6_13,m6_16,m6_17,m6_18u,m6_18i,m6_18r,m6_18g,m6_20,m6_21,m6_24,m6_26,m6_27u,m6_27i,m6_27r,m6_27g,m6_29,m6_30u,m6_30i,m6_30r,m6_30g,m6_34,m6_35,m6_38,m6_41,m6_42,m6_45,m6_47,m6_48,m6_50,m6_53,m6_54,m6_56,m6_57,m6_60,m6_63,m6_64,m6_67,m6_68,m6_71,m6_73,m6_74,m6_75,m6_76,m6_79,m6_81,m6_82,m6_83u,m6_83i,m6_83r,m6_83g,m6_85,m6_87,m6_89,m6_92,m6_94i,m6_96,m6_99,m6_102,m6_103,m6_106,m6_108,m6_110,m6_111,m6_113,m6_114,m6_117,m6_119i,m6_120,m6_123,m6_126,m6_127,nb0,nb1,ou_a,Option.toList_some,Option.toList_none,List.nil_append,List.cons_append]
  exact peIW ho hT n 0 _ _ _ _ (arr,0) A (by omega) hK hx h14 (fun v hv hk => h16 v hv (hk.elim id (fun ⟨j,hj,_⟩ => absurd hj (by omega)))) okS_u okS_u okS_u okS_u hq
def b2 (b : Bool) : Int32:=if b = true then 1 else 0
def PRc (n : Nat) (r : PR) (A : Nat→List Int32) : Prop:=∀ i j,i < n→j < n→getA (A 11) (nI (i * 32 + j)) = b2 (r.1 (i * 32 + j))∧(r.1 (i * 32 + j) = true→getA (A 9) (nI (i * 32 + j)) = r.2.1 (i * 32 + j)∧getA (A 10) (nI (i * 32 + j)) = r.2.2 (i * 32 + j))
def FO (A A' : Nat→List Int32) : Prop:=∀ k,k ≠ 9→k ≠ 10→k ≠ 11→A' k = A k
theorem FO_r (A : Nat→List Int32) : FO A A:=fun _ _ _ _ => rfl
theorem FO_t {A A' A'' : Nat→List Int32} (h : FO A A') (h' : FO A' A'') : FO A A'':=fun k a b c => (h' k a b c).trans (h k a b c)
theorem KC.fo {A' : Nat→List Int32} (h : KC n m vop vdel vk src dst reg s A) (hl : LN A') (f : FO A A') : KC n m vop vdel vk src dst reg s A':=h.ar hl (fun k hk => f k (by omega) (by omega) (by omega))
theorem PRc_set {r : PR} {k : Nat} {w y : Int32} (hk : k < 1024) (hl : LN A) (hn : n≤32) (h : PRc n r A) : PRc n (ou r.1 k true,ou r.2.1 k w,ou r.2.2 k y) (ou (ou (ou A 11 (setA (A 11) (nI k) 1)) 9 (setA (A 9) (nI k) w)) 10 (setA (A 10) (nI k) y)):=by
  intro i j hi hj
  have l9:=ln9 hl
  have l10:=ln10 hl
  have l11:=ln11 hl
  show getA (setA (A 11) _ _) _ = b2 (ou r.1 k true (i * 32 + j))∧(ou r.1 k true (i * 32 + j) = true→getA (setA (A 9) _ _) _ = ou r.2.1 k w (i * 32 + j)∧getA (setA (A 10) _ _) _ = ou r.2.2 k y (i * 32 + j))
  rw [cf_set (by omega) (by omega) (by omega),cf_set (by omega) (by omega) (by omega),cf_set (by omega) (by omega) (by omega),ou_a,ou_a,ou_a]
  by_cases z : i * 32 + j = k
  · rw [if_pos z,if_pos z,if_pos z,if_pos z,if_pos z,if_pos z]
    exact ⟨rfl,fun _ => ⟨rfl,rfl⟩⟩
  · rw [if_neg z,if_neg z,if_neg z,if_neg z,if_neg z,if_neg z]
    exact h i j hi hj
theorem LN3 {A : Nat→List Int32} {k : Nat} {w y z : Int32} (hl : LN A) : LN (ou (ou (ou A 11 (setA (A 11) (nI k) z)) 9 (setA (A 9) (nI k) w)) 10 (setA (A 10) (nI k) y)):=by
  (repeat refine LN_ou ?_ (by simp only [setA_len]; exact hl _)); exact hl
theorem FO3 {A : Nat→List Int32} {l1 l2 l3 : List Int32} : FO A (ou (ou (ou A 11 l1) 9 l2) 10 l3):=fun k a b c => by rw [ou_a,if_neg b,ou_a,if_neg a,ou_a,if_neg c]
set_option maxRecDepth 1000000 in
set_option maxHeartbeats 20000000 in
theorem ofW {r : PR} {i j : Nat} {w y : Int32} (hi : i < n) (hj : j < n) (hn : n≤32) (hl : LN A) (h : PRc n r A) (hq : ∀ A',LN A'→FO A A'→PRc n (off (i * 32 + j) w y r) A'→Q none (put (b + 1) pre s A' post)) :
    M9 0 [.val (.ref (b + 1)),.val (.int (nI (i * 32 + j))),.val (.int (w)),.val (.int (y))] [] (put (b + 1) pre s A post) Q:=by
  have q9:=in9 hl (i:=i * 32 + j) (by omega)
  have q10:=in10 hl (i:=i * 32 + j) (by omega)
  have q11:=in11 hl (i:=i * 32 + j) (by omega)
  obtain ⟨v11,hv⟩:=h i j hi hj
  have fin:=PRc_set (w:=w) (y:=y) (k:=i * 32 + j) (by omega) hl hn h
  unfold off at hq
  by_cases a : r.1 (i * 32 + j) = true
  · obtain ⟨v9,v10⟩:=hv a
    have v11' : getA (A 11) (nI (i * 32 + j)) = 1:=by rw [v11,a]; rfl
    by_cases a1 : w < r.2.1 (i * 32 + j)
    · rw [if_pos (Or.inr (Or.inl a1))] at hq
      have z1:=eq_true a1
      simp [q9,q10,q11,v9,v10,v11',z1,m9_0,m9_1,m9_4,m9_5,m9_6,m9_9,m9_10,m9_11,m9_14,m9_15,m9_16,m9_19,m9_20,m9_21,m9_24,m9_25,m9_26,m9_29,m9_30,m9_31,m9_34,m9_35,m9_36,m9_39,m9_40,m9_43,m9_44,m9_45,m9_46,m9_47,m9_50,m9_51,m9_52,m9_53,m9_54,m9_57,m9_58,m9_59,m9_60,nb0,nb1,ou_a,Option.toList_some,Option.toList_none,List.nil_append,List.cons_append]
      exact hq _ (LN3 hl) FO3 fin
    · have z1:=eq_false a1
      by_cases a2 : w = r.2.1 (i * 32 + j)
      · have z2:=eq_true a2
        by_cases a3 : r.2.2 (i * 32 + j) < y
        · rw [if_pos (Or.inr (Or.inr ⟨a2,a3⟩))] at hq
          have z3:=eq_true a3
          simp [q9,q10,q11,v9,v10,v11',z1,z2,z3,m9_0,m9_1,m9_4,m9_5,m9_6,m9_9,m9_10,m9_11,m9_14,m9_15,m9_16,m9_19,m9_20,m9_21,m9_24,m9_25,m9_26,m9_29,m9_30,m9_31,m9_34,m9_35,m9_36,m9_39,m9_40,m9_43,m9_44,m9_45,m9_46,m9_47,m9_50,m9_51,m9_52,m9_53,m9_54,m9_57,m9_58,m9_59,m9_60,nb0,nb1,ou_a,Option.toList_some,Option.toList_none,List.nil_append,List.cons_append]
          exact hq _ (LN3 hl) FO3 fin
        · rw [if_neg (fun q => q.elim (fun q => by rw [a] at q; cases q) (fun q => q.elim a1 (fun q => a3 q.2)))] at hq
          have z3:=eq_false a3
          simp [q9,q10,q11,v9,v10,v11',z1,z2,z3,m9_0,m9_1,m9_4,m9_5,m9_6,m9_9,m9_10,m9_11,m9_14,m9_15,m9_16,m9_19,m9_20,m9_21,m9_24,m9_25,m9_26,m9_29,m9_30,m9_31,m9_34,m9_35,m9_36,m9_39,m9_40,m9_43,m9_44,m9_45,m9_46,m9_47,m9_50,m9_51,m9_52,m9_53,m9_54,m9_57,m9_58,m9_59,m9_60,nb0,nb1,ou_a,Option.toList_some,Option.toList_none,List.nil_append,List.cons_append]
          exact hq _ hl (FO_r _) h
      · rw [if_neg (fun q => q.elim (fun q => by rw [a] at q; cases q) (fun q => q.elim a1 (fun q => a2 q.1)))] at hq
        have z2:=eq_false a2
        simp [q9,q10,q11,v9,v10,v11',z1,z2,m9_0,m9_1,m9_4,m9_5,m9_6,m9_9,m9_10,m9_11,m9_14,m9_15,m9_16,m9_19,m9_20,m9_21,m9_24,m9_25,m9_26,m9_29,m9_30,m9_31,m9_34,m9_35,m9_36,m9_39,m9_40,m9_43,m9_44,m9_45,m9_46,m9_47,m9_50,m9_51,m9_52,m9_53,m9_54,m9_57,m9_58,m9_59,m9_60,nb0,nb1,ou_a,Option.toList_some,Option.toList_none,List.nil_append,List.cons_append]
        exact hq _ hl (FO_r _) h
  · have a' : r.1 (i * 32 + j) = false:=by cases q : r.1 (i * 32 + j) <;> simp_all
    have v11' : getA (A 11) (nI (i * 32 + j)) = 0:=by rw [v11,a']; rfl
    rw [if_pos (Or.inl a')] at hq
    simp [q9,q10,q11,v11',m9_0,m9_1,m9_4,m9_5,m9_6,m9_9,m9_10,m9_11,m9_14,m9_15,m9_16,m9_19,m9_20,m9_21,m9_24,m9_25,m9_26,m9_29,m9_30,m9_31,m9_34,m9_35,m9_36,m9_39,m9_40,m9_43,m9_44,m9_45,m9_46,m9_47,m9_50,m9_51,m9_52,m9_53,m9_54,m9_57,m9_58,m9_59,m9_60,nb0,nb1,ou_a,Option.toList_some,Option.toList_none,List.nil_append,List.cons_append]
    exact hq _ (LN3 hl) FO3 fin
set_option maxRecDepth 1000000 in
set_option maxHeartbeats 20000000 in
theorem rvJW {k i : Nat} (hk : k < n) (hi : i < n) : ∀ (c j : Nat) (l5 : Slot) (r : PR) (A : Nat→List Int32),j + c = n→KC n m vop vdel vk src dst reg s A→PRc n r A→r.1 (i * 32 + k) = true→okS l5 →
    (∀ l4 l5 A',okS l4→okS l5→LN A'→FO A A'→PRc n (rvJ k i c j r) A'→M8 105 [.val (.ref (b + 1)),.val (.int (nI k)),.val (.int (nI i)),.val (.int (nI (i * 32 + k))),l4,l5] [] (put (b + 1) pre s A' post) Q) →
    M8 32 [.val (.ref (b + 1)),.val (.int (nI k)),.val (.int (nI i)),.val (.int (nI (i * 32 + k))),.val (.int (nI j)),l5] [] (put (b + 1) pre s A post) Q:=by
  intro c
  induction c with
  | zero =>
    intro j l5 r A e hK hP hr o5 hq
    have e0:=hK.e0
    have n32:=hK.n32
    have c1 : (nI j < nI n) = False:=lF (by omega) (by omega)
    rw [m8_32]
    simp [e0,c1,m8_0,m8_1u,m8_3,m8_4,m8_7,m8_10,m8_11,m8_13,m8_14,m8_15,m8_16u,m8_16i,m8_16r,m8_16g,m8_17,m8_18,m8_21,m8_22,m8_23,m8_26,m8_29,m8_30u,m8_30i,m8_30r,m8_30g,m8_34,m8_35,m8_38,m8_41,m8_42,m8_44,m8_45,m8_47,m8_48u,m8_48i,m8_48r,m8_48g,m8_50,m8_51,m8_54,m8_56,m8_57,m8_60,m8_61,m8_62,m8_64,m8_65,m8_67,m8_68,m8_69,m8_72,m8_73,m8_74,m8_75,m8_78,m8_80,m8_81,m8_82,m8_83,m8_86,m8_87,m8_88,m8_89,m8_92,m8_94,m8_95,m8_96,m8_99,m8_102,m8_108,m8_111,nb0,nb1,ou_a,Option.toList_some,Option.toList_none,List.nil_append,List.cons_append]
    exact hq _ _ A (okS_n _) o5 hK.ln (FO_r _) hP
  | succ c ih =>
    intro j l5 r A e hK hP hr o5 hq
    have e0:=hK.e0
    have n32:=hK.n32
    have c1 : (nI j < nI n) = True:=lT (by omega) (by omega)
    have q11:=in11 hK.ln (i:=k * 32 + j) (by omega)
    obtain ⟨v11,hv⟩:=hP k j hk (by omega)
    rw [rvJ] at hq
    rw [m8_32]
    by_cases a : r.1 (k * 32 + j) = true
    · have v11' : getA (A 11) (nI (k * 32 + j)) = 1:=by rw [v11,a]; rfl
      obtain ⟨v9,v10⟩:=hv a
      obtain ⟨w9,w10⟩:=(hP i k hi hk).2 hr
      have q9:=in9 hK.ln (i:=k * 32 + j) (by omega)
      have q10:=in10 hK.ln (i:=k * 32 + j) (by omega)
      have r9:=in9 hK.ln (i:=i * 32 + k) (by omega)
      have r10:=in10 hK.ln (i:=i * 32 + k) (by omega)
      rw [if_pos a] at hq
      simp [e0,c1,q11,v11',v9,v10,w9,w10,q9,q10,r9,r10,o5,nI_32,nI_add,m8_0,m8_1u,m8_3,m8_4,m8_7,m8_10,m8_11,m8_13,m8_14,m8_15,m8_16u,m8_16i,m8_16r,m8_16g,m8_17,m8_18,m8_21,m8_22,m8_23,m8_26,m8_29,m8_30u,m8_30i,m8_30r,m8_30g,m8_34,m8_35,m8_38,m8_41,m8_42,m8_44,m8_45,m8_47,m8_48u,m8_48i,m8_48r,m8_48g,m8_50,m8_51,m8_54,m8_56,m8_57,m8_60,m8_61,m8_62,m8_64,m8_65,m8_67,m8_68,m8_69,m8_72,m8_73,m8_74,m8_75,m8_78,m8_80,m8_81,m8_82,m8_83,m8_86,m8_87,m8_88,m8_89,m8_92,m8_94,m8_95,m8_96,m8_99,m8_102,m8_105,m8_108,m8_111,nb0,nb1,ou_a,Option.toList_some,Option.toList_none,List.nil_append,List.cons_append]
      refine ofW hi (by omega) n32 hK.ln hP (fun A1 l1 f1 h1 => ?_)
      simp [nI_1,m8_0,m8_1u,m8_3,m8_4,m8_7,m8_10,m8_11,m8_13,m8_14,m8_15,m8_16u,m8_16i,m8_16r,m8_16g,m8_17,m8_18,m8_21,m8_22,m8_23,m8_26,m8_29,m8_30u,m8_30i,m8_30r,m8_30g,m8_34,m8_35,m8_38,m8_41,m8_42,m8_44,m8_45,m8_47,m8_48u,m8_48i,m8_48r,m8_48g,m8_50,m8_51,m8_54,m8_56,m8_57,m8_60,m8_61,m8_62,m8_64,m8_65,m8_67,m8_68,m8_69,m8_72,m8_73,m8_74,m8_75,m8_78,m8_80,m8_81,m8_82,m8_83,m8_86,m8_87,m8_88,m8_89,m8_92,m8_94,m8_95,m8_96,m8_99,m8_102,m8_105,m8_108,m8_111,nb0,nb1,ou_a,Option.toList_some,Option.toList_none,List.nil_append,List.cons_append]
      refine ih (j + 1) _ _ _ (by omega) (hK.fo l1 f1) h1 ?_ (okS_n _) (fun l4 l5 A' o4 o5 l' f' h' => hq l4 l5 A' o4 o5 l' (FO_t f1 f') h')
      unfold off
      split
      · show ou r.1 _ true _ = true
        rw [ou_a]
        split
        · rfl
        · exact hr
      · exact hr
    · have a' : r.1 (k * 32 + j) = false:=by cases q : r.1 (k * 32 + j) <;> simp_all
      have v11' : getA (A 11) (nI (k * 32 + j)) = 0:=by rw [v11,a']; rfl
      rw [if_neg a] at hq
      simp [e0,c1,q11,v11',o5,nI_32,nI_add,nI_1,m8_0,m8_1u,m8_3,m8_4,m8_7,m8_10,m8_11,m8_13,m8_14,m8_15,m8_16u,m8_16i,m8_16r,m8_16g,m8_17,m8_18,m8_21,m8_22,m8_23,m8_26,m8_29,m8_30u,m8_30i,m8_30r,m8_30g,m8_34,m8_35,m8_38,m8_41,m8_42,m8_44,m8_45,m8_47,m8_48u,m8_48i,m8_48r,m8_48g,m8_50,m8_51,m8_54,m8_56,m8_57,m8_60,m8_61,m8_62,m8_64,m8_65,m8_67,m8_68,m8_69,m8_72,m8_73,m8_74,m8_75,m8_78,m8_80,m8_81,m8_82,m8_83,m8_86,m8_87,m8_88,m8_89,m8_92,m8_94,m8_95,m8_96,m8_99,m8_102,m8_105,m8_108,m8_111,nb0,nb1,ou_a,Option.toList_some,Option.toList_none,List.nil_append,List.cons_append]
      exact ih (j + 1) _ _ _ (by omega) hK hP hr (okS_n _) hq
set_option maxRecDepth 1000000 in
set_option maxHeartbeats 20000000 in
theorem rvIW {k : Nat} (hk : k < n) : ∀ (c i : Nat) (l3 l4 l5 : Slot) (r : PR) (A : Nat→List Int32),i + c = n→KC n m vop vdel vk src dst reg s A→PRc n r A→okS l3→okS l4→okS l5 →
    (∀ A',LN A'→FO A A'→PRc n (rvI n k c i r) A'→Q none (put (b + 1) pre s A' post)) →
    M8 2 [.val (.ref (b + 1)),.val (.int (nI k)),.val (.int (nI i)),l3,l4,l5] [] (put (b + 1) pre s A post) Q:=by
  intro c
  induction c with
  | zero =>
    intro i l3 l4 l5 r A e hK hP o3 o4 o5 hq
    have e0:=hK.e0
    have n32:=hK.n32
    have c1 : (nI i < nI n) = False:=lF (by omega) (by omega)
    rw [m8_2]
    simp [e0,c1,m8_0,m8_1u,m8_3,m8_4,m8_7,m8_10,m8_11,m8_13,m8_14,m8_15,m8_16u,m8_16i,m8_16r,m8_16g,m8_17,m8_18,m8_21,m8_22,m8_23,m8_26,m8_29,m8_30u,m8_30i,m8_30r,m8_30g,m8_34,m8_35,m8_38,m8_41,m8_42,m8_44,m8_45,m8_47,m8_48u,m8_48i,m8_48r,m8_48g,m8_50,m8_51,m8_54,m8_56,m8_57,m8_60,m8_61,m8_62,m8_64,m8_65,m8_67,m8_68,m8_69,m8_72,m8_73,m8_74,m8_75,m8_78,m8_80,m8_81,m8_82,m8_83,m8_86,m8_87,m8_88,m8_89,m8_92,m8_94,m8_95,m8_96,m8_99,m8_102,m8_105,m8_108,m8_111,nb0,nb1,ou_a,Option.toList_some,Option.toList_none,List.nil_append,List.cons_append]
    exact hq A hK.ln (FO_r _) hP
  | succ c ih =>
    intro i l3 l4 l5 r A e hK hP o3 o4 o5 hq
    have e0:=hK.e0
    have n32:=hK.n32
    have c1 : (nI i < nI n) = True:=lT (by omega) (by omega)
    have q11:=in11 hK.ln (i:=i * 32 + k) (by omega)
    obtain ⟨v11,_⟩:=hP i k (by omega) hk
    rw [rvI] at hq
    rw [m8_2]
    by_cases a : r.1 (i * 32 + k) = true
    · have v11' : getA (A 11) (nI (i * 32 + k)) = 1:=by rw [v11,a]; rfl
      rw [if_pos a] at hq
      simp [e0,c1,q11,v11',o3,o4,nI_32,nI_add,m8_0,m8_1u,m8_3,m8_4,m8_7,m8_10,m8_11,m8_13,m8_14,m8_15,m8_16u,m8_16i,m8_16r,m8_16g,m8_17,m8_18,m8_21,m8_22,m8_23,m8_26,m8_29,m8_30u,m8_30i,m8_30r,m8_30g,m8_34,m8_35,m8_38,m8_41,m8_42,m8_44,m8_45,m8_47,m8_48u,m8_48i,m8_48r,m8_48g,m8_50,m8_51,m8_54,m8_56,m8_57,m8_60,m8_61,m8_62,m8_64,m8_65,m8_67,m8_68,m8_69,m8_72,m8_73,m8_74,m8_75,m8_78,m8_80,m8_81,m8_82,m8_83,m8_86,m8_87,m8_88,m8_89,m8_92,m8_94,m8_95,m8_96,m8_99,m8_102,m8_105,m8_108,m8_111,nb0,nb1,ou_a,Option.toList_some,Option.toList_none,List.nil_append,List.cons_append]
      refine rvJW hk (by omega) n 0 _ r A (by omega) hK hP a o5 (fun l4 l5 A' o4 o5 l' f' h' => ?_)
      simp [nI_1,m8_0,m8_1u,m8_3,m8_4,m8_7,m8_10,m8_11,m8_13,m8_14,m8_15,m8_16u,m8_16i,m8_16r,m8_16g,m8_17,m8_18,m8_21,m8_22,m8_23,m8_26,m8_29,m8_30u,m8_30i,m8_30r,m8_30g,m8_34,m8_35,m8_38,m8_41,m8_42,m8_44,m8_45,m8_47,m8_48u,m8_48i,m8_48r,m8_48g,m8_50,m8_51,m8_54,m8_56,m8_57,m8_60,m8_61,m8_62,m8_64,m8_65,m8_67,m8_68,m8_69,m8_72,m8_73,m8_74,m8_75,m8_78,m8_80,m8_81,m8_82,m8_83,m8_86,m8_87,m8_88,m8_89,m8_92,m8_94,m8_95,m8_96,m8_99,m8_102,m8_105,m8_108,m8_111,nb0,nb1,ou_a,Option.toList_some,Option.toList_none,List.nil_append,List.cons_append]
      exact ih (i + 1) _ _ _ _ _ (by omega) (hK.fo l' f') h' (okS_n _) o4 o5 (fun A'' l'' f'' h'' => hq A'' l'' (FO_t f' f'') h'')
    · have a' : r.1 (i * 32 + k) = false:=by cases q : r.1 (i * 32 + k) <;> simp_all
      have v11' : getA (A 11) (nI (i * 32 + k)) = 0:=by rw [v11,a']; rfl
      rw [if_neg a] at hq
      simp [e0,c1,q11,v11',o3,nI_32,nI_add,nI_1,m8_0,m8_1u,m8_3,m8_4,m8_7,m8_10,m8_11,m8_13,m8_14,m8_15,m8_16u,m8_16i,m8_16r,m8_16g,m8_17,m8_18,m8_21,m8_22,m8_23,m8_26,m8_29,m8_30u,m8_30i,m8_30r,m8_30g,m8_34,m8_35,m8_38,m8_41,m8_42,m8_44,m8_45,m8_47,m8_48u,m8_48i,m8_48r,m8_48g,m8_50,m8_51,m8_54,m8_56,m8_57,m8_60,m8_61,m8_62,m8_64,m8_65,m8_67,m8_68,m8_69,m8_72,m8_73,m8_74,m8_75,m8_78,m8_80,m8_81,m8_82,m8_83,m8_86,m8_87,m8_88,m8_89,m8_92,m8_94,m8_95,m8_96,m8_99,m8_102,m8_105,m8_108,m8_111,nb0,nb1,ou_a,Option.toList_some,Option.toList_none,List.nil_append,List.cons_append]
      exact ih (i + 1) _ _ _ _ _ (by omega) hK hP (okS_n _) o4 o5 hq
theorem rvW {k : Nat} {r : PR} (hk : k < n) (hK : KC n m vop vdel vk src dst reg s A) (hP : PRc n r A) (hq : ∀ A',LN A'→FO A A'→PRc n (rvI n k n 0 r) A'→Q none (put (b + 1) pre s A' post)) :
    M8 0 [.val (.ref (b + 1)),.val (.int (nI k)),.unset,.unset,.unset,.unset] [] (put (b + 1) pre s A post) Q:=by
  simp [m8_0,m8_1u,m8_3,m8_4,m8_7,m8_10,m8_11,m8_13,m8_14,m8_15,m8_16u,m8_16i,m8_16r,m8_16g,m8_17,m8_18,m8_21,m8_22,m8_23,m8_26,m8_29,m8_30u,m8_30i,m8_30r,m8_30g,m8_34,m8_35,m8_38,m8_41,m8_42,m8_44,m8_45,m8_47,m8_48u,m8_48i,m8_48r,m8_48g,m8_50,m8_51,m8_54,m8_56,m8_57,m8_60,m8_61,m8_62,m8_64,m8_65,m8_67,m8_68,m8_69,m8_72,m8_73,m8_74,m8_75,m8_78,m8_80,m8_81,m8_82,m8_83,m8_86,m8_87,m8_88,m8_89,m8_92,m8_94,m8_95,m8_96,m8_99,m8_102,m8_105,m8_108,m8_111,nb0,nb1,ou_a,Option.toList_some,Option.toList_none,List.nil_append,List.cons_append]
  exact rvIW hk n 0 _ _ _ r A (by omega) hK hP okS_u okS_u okS_u hq
set_option maxRecDepth 1000000 in
set_option maxHeartbeats 20000000 in
theorem cpVW {l2 : Slot} : ∀ (c k : Nat) (r : PR) (A : Nat→List Int32),k + c = n→KC n m vop vdel vk src dst reg s A→PRc n r A→(∀ A',LN A'→FO A A'→PRc n (cpV n c k r) A'→Q none (put (b + 1) pre s A' post))→M7 143 [.val (.ref (b + 1)),.val (.int (nI k)),l2] [] (put (b + 1) pre s A post) Q:=by
  intro c
  induction c with
  | zero =>
    intro k r A e hK hP hq
    have e0:=hK.e0
    have n32:=hK.n32
    have c1 : (nI k < nI n) = False:=lF (by omega) (by omega)
    rw [m7_143]
    simp [e0,c1,m7_0,m7_1u,m7_3,m7_4,m7_7,m7_10,m7_11u,m7_11i,m7_11r,m7_11g,m7_13,m7_14,m7_17,m7_20,m7_21,m7_24,m7_25,m7_27,m7_28,m7_29,m7_30,m7_31,m7_32,m7_35,m7_38,m7_41,m7_44,m7_45i,m7_47,m7_48,m7_51,m7_54,m7_55,m7_57,m7_58,m7_59,m7_60u,m7_60i,m7_60r,m7_60g,m7_61,m7_62,m7_65,m7_66,m7_67,m7_68,m7_69,m7_72,m7_73,m7_74,m7_75,m7_76,m7_79,m7_80,m7_81,m7_82,m7_85,m7_88,m7_89i,m7_91,m7_92,m7_95,m7_98,m7_99,m7_100,m7_103,m7_104,m7_105,m7_107,m7_108,m7_109,m7_112,m7_113,m7_114,m7_115,m7_116,m7_119,m7_120,m7_121,m7_122,m7_125,m7_126,m7_129,m7_130,m7_131,m7_132,m7_135,m7_138,m7_141,m7_142i,m7_144,m7_145,m7_148,m7_151,m7_152,m7_153,m7_156,m7_159,m7_162,nb0,nb1,ou_a,Option.toList_some,Option.toList_none,List.nil_append,List.cons_append]
    exact hq A hK.ln (FO_r _) hP
  | succ c ih =>
    intro k r A e hK hP hq
    have e0:=hK.e0
    have n32:=hK.n32
    have c1 : (nI k < nI n) = True:=lT (by omega) (by omega)
    rw [cpV] at hq
    rw [m7_143]
    simp [e0,c1,m7_0,m7_1u,m7_3,m7_4,m7_7,m7_10,m7_11u,m7_11i,m7_11r,m7_11g,m7_13,m7_14,m7_17,m7_20,m7_21,m7_24,m7_25,m7_27,m7_28,m7_29,m7_30,m7_31,m7_32,m7_35,m7_38,m7_41,m7_44,m7_45i,m7_47,m7_48,m7_51,m7_54,m7_55,m7_57,m7_58,m7_59,m7_60u,m7_60i,m7_60r,m7_60g,m7_61,m7_62,m7_65,m7_66,m7_67,m7_68,m7_69,m7_72,m7_73,m7_74,m7_75,m7_76,m7_79,m7_80,m7_81,m7_82,m7_85,m7_88,m7_89i,m7_91,m7_92,m7_95,m7_98,m7_99,m7_100,m7_103,m7_104,m7_105,m7_107,m7_108,m7_109,m7_112,m7_113,m7_114,m7_115,m7_116,m7_119,m7_120,m7_121,m7_122,m7_125,m7_126,m7_129,m7_130,m7_131,m7_132,m7_135,m7_138,m7_141,m7_142i,m7_144,m7_145,m7_148,m7_151,m7_152,m7_153,m7_156,m7_159,m7_162,nb0,nb1,ou_a,Option.toList_some,Option.toList_none,List.nil_append,List.cons_append]
    refine rvW (by omega) hK hP (fun A1 l1 f1 h1 => ?_)
    simp [nI_1,m7_0,m7_1u,m7_3,m7_4,m7_7,m7_10,m7_11u,m7_11i,m7_11r,m7_11g,m7_13,m7_14,m7_17,m7_20,m7_21,m7_24,m7_25,m7_27,m7_28,m7_29,m7_30,m7_31,m7_32,m7_35,m7_38,m7_41,m7_44,m7_45i,m7_47,m7_48,m7_51,m7_54,m7_55,m7_57,m7_58,m7_59,m7_60u,m7_60i,m7_60r,m7_60g,m7_61,m7_62,m7_65,m7_66,m7_67,m7_68,m7_69,m7_72,m7_73,m7_74,m7_75,m7_76,m7_79,m7_80,m7_81,m7_82,m7_85,m7_88,m7_89i,m7_91,m7_92,m7_95,m7_98,m7_99,m7_100,m7_103,m7_104,m7_105,m7_107,m7_108,m7_109,m7_112,m7_113,m7_114,m7_115,m7_116,m7_119,m7_120,m7_121,m7_122,m7_125,m7_126,m7_129,m7_130,m7_131,m7_132,m7_135,m7_138,m7_141,m7_142i,m7_144,m7_145,m7_148,m7_151,m7_152,m7_153,m7_156,m7_159,m7_162,nb0,nb1,ou_a,Option.toList_some,Option.toList_none,List.nil_append,List.cons_append]
    exact ih (k + 1) _ _ (by omega) (hK.fo l1 f1) h1 (fun A' l' f' h' => hq A' l' (FO_t f1 f') h')
set_option maxRecDepth 1000000 in
set_option maxHeartbeats 20000000 in
theorem cpEW {l2 : Slot} : ∀ (c e : Nat) (r : PR) (A : Nat→List Int32),e + c = m→KC n m vop vdel vk src dst reg s A→PRc n r A→(∀ A',LN A'→FO A A'→PRc n (cpV n n 0 (cpE reg vdel src dst c e r)) A'→Q none (put (b + 1) pre s A' post))→M7 90 [.val (.ref (b + 1)),.val (.int (nI e)),l2] [] (put (b + 1) pre s A post) Q:=by
  intro c
  induction c with
  | zero =>
    intro e r A er hK hP hq
    have e1:=hK.e1
    have m64:=hK.m64
    have c1 : (nI e < nI m) = False:=lF (by omega) (by omega)
    rw [m7_90]
    simp [e1,c1,m7_0,m7_1u,m7_3,m7_4,m7_7,m7_10,m7_11u,m7_11i,m7_11r,m7_11g,m7_13,m7_14,m7_17,m7_20,m7_21,m7_24,m7_25,m7_27,m7_28,m7_29,m7_30,m7_31,m7_32,m7_35,m7_38,m7_41,m7_44,m7_45i,m7_47,m7_48,m7_51,m7_54,m7_55,m7_57,m7_58,m7_59,m7_60u,m7_60i,m7_60r,m7_60g,m7_61,m7_62,m7_65,m7_66,m7_67,m7_68,m7_69,m7_72,m7_73,m7_74,m7_75,m7_76,m7_79,m7_80,m7_81,m7_82,m7_85,m7_88,m7_89i,m7_91,m7_92,m7_95,m7_98,m7_99,m7_100,m7_103,m7_104,m7_105,m7_107,m7_108,m7_109,m7_112,m7_113,m7_114,m7_115,m7_116,m7_119,m7_120,m7_121,m7_122,m7_125,m7_126,m7_129,m7_130,m7_131,m7_132,m7_135,m7_138,m7_141,m7_142i,m7_144,m7_145,m7_148,m7_151,m7_152,m7_153,m7_156,m7_159,m7_162,nb0,nb1,ou_a,Option.toList_some,Option.toList_none,List.nil_append,List.cons_append]
    exact cpVW n 0 r A (by omega) hK hP hq
  | succ c ih =>
    intro e r A er hK hP hq
    have e1:=hK.e1
    have m64:=hK.m64
    have n32:=hK.n32
    have sd:=hK.lt (e:=e) (by omega)
    have c1 : (nI e < nI m) = True:=lT (by omega) (by omega)
    have q3:=in3 hK.ln (i:=e) (by omega)
    have v3:=hK.sr e (by omega)
    have q4:=in4 hK.ln (i:=e) (by omega)
    have v4:=hK.ds e (by omega)
    have q5:=in5 hK.ln (i:=e) (by omega)
    have v5:=hK.rg e (by omega)
    have q1:=in1 hK.ln (i:=src e) (by omega)
    have v1:=hK.vd (src e) sd.1
    rw [cpE] at hq
    rw [m7_90]
    simp [e1,c1,q3,v3,q4,v4,q5,v5,q1,v1,nI_32,nI_add,m7_0,m7_1u,m7_3,m7_4,m7_7,m7_10,m7_11u,m7_11i,m7_11r,m7_11g,m7_13,m7_14,m7_17,m7_20,m7_21,m7_24,m7_25,m7_27,m7_28,m7_29,m7_30,m7_31,m7_32,m7_35,m7_38,m7_41,m7_44,m7_45i,m7_47,m7_48,m7_51,m7_54,m7_55,m7_57,m7_58,m7_59,m7_60u,m7_60i,m7_60r,m7_60g,m7_61,m7_62,m7_65,m7_66,m7_67,m7_68,m7_69,m7_72,m7_73,m7_74,m7_75,m7_76,m7_79,m7_80,m7_81,m7_82,m7_85,m7_88,m7_89i,m7_91,m7_92,m7_95,m7_98,m7_99,m7_100,m7_103,m7_104,m7_105,m7_107,m7_108,m7_109,m7_112,m7_113,m7_114,m7_115,m7_116,m7_119,m7_120,m7_121,m7_122,m7_125,m7_126,m7_129,m7_130,m7_131,m7_132,m7_135,m7_138,m7_141,m7_142i,m7_144,m7_145,m7_148,m7_151,m7_152,m7_153,m7_156,m7_159,m7_162,nb0,nb1,ou_a,Option.toList_some,Option.toList_none,List.nil_append,List.cons_append]
    refine ofW sd.1 sd.2 n32 hK.ln hP (fun A1 l1 f1 h1 => ?_)
    simp [nI_1,m7_0,m7_1u,m7_3,m7_4,m7_7,m7_10,m7_11u,m7_11i,m7_11r,m7_11g,m7_13,m7_14,m7_17,m7_20,m7_21,m7_24,m7_25,m7_27,m7_28,m7_29,m7_30,m7_31,m7_32,m7_35,m7_38,m7_41,m7_44,m7_45i,m7_47,m7_48,m7_51,m7_54,m7_55,m7_57,m7_58,m7_59,m7_60u,m7_60i,m7_60r,m7_60g,m7_61,m7_62,m7_65,m7_66,m7_67,m7_68,m7_69,m7_72,m7_73,m7_74,m7_75,m7_76,m7_79,m7_80,m7_81,m7_82,m7_85,m7_88,m7_89i,m7_91,m7_92,m7_95,m7_98,m7_99,m7_100,m7_103,m7_104,m7_105,m7_107,m7_108,m7_109,m7_112,m7_113,m7_114,m7_115,m7_116,m7_119,m7_120,m7_121,m7_122,m7_125,m7_126,m7_129,m7_130,m7_131,m7_132,m7_135,m7_138,m7_141,m7_142i,m7_144,m7_145,m7_148,m7_151,m7_152,m7_153,m7_156,m7_159,m7_162,nb0,nb1,ou_a,Option.toList_some,Option.toList_none,List.nil_append,List.cons_append]
    exact ih (e + 1) _ _ (by omega) (hK.fo l1 f1) h1 (fun A' l' f' h' => hq A' l' (FO_t f1 f') h')
set_option maxRecDepth 1000000 in
set_option maxHeartbeats 20000000 in
theorem cpDW : ∀ (c i : Nat) (l2 : Slot) (r : PR) (A : Nat→List Int32),i + c = n→KC n m vop vdel vk src dst reg s A→PRc n r A→okS l2→(∀ A',LN A'→FO A A'→PRc n (cpV n n 0 (cpE reg vdel src dst m 0 (cpD c i r))) A'→Q none (put (b + 1) pre s A' post))→M7 46 [.val (.ref (b + 1)),.val (.int (nI i)),l2] [] (put (b + 1) pre s A post) Q:=by
  intro c
  induction c with
  | zero =>
    intro i l2 r A e hK hP o2 hq
    have e0:=hK.e0
    have n32:=hK.n32
    have c1 : (nI i < nI n) = False:=lF (by omega) (by omega)
    rw [m7_46]
    simp [e0,c1,m7_0,m7_1u,m7_3,m7_4,m7_7,m7_10,m7_11u,m7_11i,m7_11r,m7_11g,m7_13,m7_14,m7_17,m7_20,m7_21,m7_24,m7_25,m7_27,m7_28,m7_29,m7_30,m7_31,m7_32,m7_35,m7_38,m7_41,m7_44,m7_45i,m7_47,m7_48,m7_51,m7_54,m7_55,m7_57,m7_58,m7_59,m7_60u,m7_60i,m7_60r,m7_60g,m7_61,m7_62,m7_65,m7_66,m7_67,m7_68,m7_69,m7_72,m7_73,m7_74,m7_75,m7_76,m7_79,m7_80,m7_81,m7_82,m7_85,m7_88,m7_89i,m7_91,m7_92,m7_95,m7_98,m7_99,m7_100,m7_103,m7_104,m7_105,m7_107,m7_108,m7_109,m7_112,m7_113,m7_114,m7_115,m7_116,m7_119,m7_120,m7_121,m7_122,m7_125,m7_126,m7_129,m7_130,m7_131,m7_132,m7_135,m7_138,m7_141,m7_142i,m7_144,m7_145,m7_148,m7_151,m7_152,m7_153,m7_156,m7_159,m7_162,nb0,nb1,ou_a,Option.toList_some,Option.toList_none,List.nil_append,List.cons_append]
    exact cpEW m 0 r A (by omega) hK hP hq
  | succ c ih =>
    intro i l2 r A e hK hP o2 hq
    have e0:=hK.e0
    have n32:=hK.n32
    have c1 : (nI i < nI n) = True:=lT (by omega) (by omega)
    have q9:=in9 hK.ln (i:=i * 32 + i) (by omega)
    have q10:=in10 hK.ln (i:=i * 32 + i) (by omega)
    have q11:=in11 hK.ln (i:=i * 32 + i) (by omega)
    have fin:=PRc_set (w:=0) (y:=0) (k:=i * 32 + i) (by omega) hK.ln n32 hP
    rw [cpD] at hq
    rw [m7_46]
    simp [e0,c1,q9,q10,q11,o2,nI_32,nI_add,nI_1,m7_0,m7_1u,m7_3,m7_4,m7_7,m7_10,m7_11u,m7_11i,m7_11r,m7_11g,m7_13,m7_14,m7_17,m7_20,m7_21,m7_24,m7_25,m7_27,m7_28,m7_29,m7_30,m7_31,m7_32,m7_35,m7_38,m7_41,m7_44,m7_45i,m7_47,m7_48,m7_51,m7_54,m7_55,m7_57,m7_58,m7_59,m7_60u,m7_60i,m7_60r,m7_60g,m7_61,m7_62,m7_65,m7_66,m7_67,m7_68,m7_69,m7_72,m7_73,m7_74,m7_75,m7_76,m7_79,m7_80,m7_81,m7_82,m7_85,m7_88,m7_89i,m7_91,m7_92,m7_95,m7_98,m7_99,m7_100,m7_103,m7_104,m7_105,m7_107,m7_108,m7_109,m7_112,m7_113,m7_114,m7_115,m7_116,m7_119,m7_120,m7_121,m7_122,m7_125,m7_126,m7_129,m7_130,m7_131,m7_132,m7_135,m7_138,m7_141,m7_142i,m7_144,m7_145,m7_148,m7_151,m7_152,m7_153,m7_156,m7_159,m7_162,nb0,nb1,ou_a,Option.toList_some,Option.toList_none,List.nil_append,List.cons_append]
    exact ih (i + 1) _ _ _ (by omega) (hK.fo (LN3 hK.ln) FO3) fin (okS_n _) (fun A' l' f' h' => hq A' l' (FO_t FO3 f') h')
set_option maxRecDepth 1000000 in
set_option maxHeartbeats 20000000 in
theorem cpZ {i : Nat} (hi : i < n) : ∀ (c j : Nat) (A : Nat→List Int32),j + c = n→KC n m vop vdel vk src dst reg s A→(∀ i' j',i' < n→j' < n→(i' < i ∨ (i' = i∧j' < j))→getA (A 11) (nI (i' * 32 + j')) = 0) →
    (∀ A',LN A'→FO A A'→(∀ i' j',i' < n→j' < n→i' < i + 1→getA (A' 11) (nI (i' * 32 + j')) = 0)→M7 2 [.val (.ref (b + 1)),.val (.int (nI (i + 1))),.val (.int (nI n))] [] (put (b + 1) pre s A' post) Q)→M7 12 [.val (.ref (b + 1)),.val (.int (nI i)),.val (.int (nI j))] [] (put (b + 1) pre s A post) Q:=by
  intro c
  induction c with
  | zero =>
    intro j A e hK hz hq
    have e0:=hK.e0
    have n32:=hK.n32
    obtain rfl : j = n:=by omega
    have c1 : (nI j < nI j) = False:=lF (by omega) (by omega)
    rw [m7_12]
    simp [e0,c1,nI_1,m7_0,m7_1u,m7_3,m7_4,m7_7,m7_10,m7_11u,m7_11i,m7_11r,m7_11g,m7_13,m7_14,m7_17,m7_20,m7_21,m7_24,m7_25,m7_27,m7_28,m7_29,m7_30,m7_31,m7_32,m7_35,m7_38,m7_41,m7_44,m7_45i,m7_47,m7_48,m7_51,m7_54,m7_55,m7_57,m7_58,m7_59,m7_60u,m7_60i,m7_60r,m7_60g,m7_61,m7_62,m7_65,m7_66,m7_67,m7_68,m7_69,m7_72,m7_73,m7_74,m7_75,m7_76,m7_79,m7_80,m7_81,m7_82,m7_85,m7_88,m7_89i,m7_91,m7_92,m7_95,m7_98,m7_99,m7_100,m7_103,m7_104,m7_105,m7_107,m7_108,m7_109,m7_112,m7_113,m7_114,m7_115,m7_116,m7_119,m7_120,m7_121,m7_122,m7_125,m7_126,m7_129,m7_130,m7_131,m7_132,m7_135,m7_138,m7_141,m7_142i,m7_144,m7_145,m7_148,m7_151,m7_152,m7_153,m7_156,m7_159,m7_162,nb0,nb1,ou_a,Option.toList_some,Option.toList_none,List.nil_append,List.cons_append]
    exact hq A hK.ln (FO_r _) (fun i' j' h1 h2 h3 => hz i' j' h1 h2 (by omega))
  | succ c ih =>
    intro j A e hK hz hq
    have e0:=hK.e0
    have n32:=hK.n32
    have c1 : (nI j < nI n) = True:=lT (by omega) (by omega)
    have q11:=in11 hK.ln (i:=i * 32 + j) (by omega)
    have l11:=ln11 hK.ln
    have f1 : FO A (ou A 11 (setA (A 11) (nI (i * 32 + j)) 0)):=fun k _ _ c => by rw [ou_a,if_neg c]
    rw [m7_12]
    simp [e0,c1,q11,nI_32,nI_add,nI_1,m7_0,m7_1u,m7_3,m7_4,m7_7,m7_10,m7_11u,m7_11i,m7_11r,m7_11g,m7_13,m7_14,m7_17,m7_20,m7_21,m7_24,m7_25,m7_27,m7_28,m7_29,m7_30,m7_31,m7_32,m7_35,m7_38,m7_41,m7_44,m7_45i,m7_47,m7_48,m7_51,m7_54,m7_55,m7_57,m7_58,m7_59,m7_60u,m7_60i,m7_60r,m7_60g,m7_61,m7_62,m7_65,m7_66,m7_67,m7_68,m7_69,m7_72,m7_73,m7_74,m7_75,m7_76,m7_79,m7_80,m7_81,m7_82,m7_85,m7_88,m7_89i,m7_91,m7_92,m7_95,m7_98,m7_99,m7_100,m7_103,m7_104,m7_105,m7_107,m7_108,m7_109,m7_112,m7_113,m7_114,m7_115,m7_116,m7_119,m7_120,m7_121,m7_122,m7_125,m7_126,m7_129,m7_130,m7_131,m7_132,m7_135,m7_138,m7_141,m7_142i,m7_144,m7_145,m7_148,m7_151,m7_152,m7_153,m7_156,m7_159,m7_162,nb0,nb1,ou_a,Option.toList_some,Option.toList_none,List.nil_append,List.cons_append]
    refine ih (j + 1) _ (by omega) (hK.fo (LN_set hK.ln) f1) (fun i' j' h1 h2 h3 => ?_) (fun A' l' f' h' => hq A' l' (FO_t f1 f') h')
    show getA (setA (A 11) _ _) _ = _
    rw [cf_set (by omega) (by omega) (by omega)]
    split
    · rfl
    · exact hz i' j' h1 h2 (by omega)
theorem cpI : ∀ (c i : Nat) (l2 : Slot) (A : Nat→List Int32),i + c = n→KC n m vop vdel vk src dst reg s A→okS l2→(∀ i' j',i' < n→j' < n→i' < i→getA (A 11) (nI (i' * 32 + j')) = 0) →
    (∀ A',LN A'→FO A A'→PRc n (pairs n m reg vdel src dst) A'→Q none (put (b + 1) pre s A' post))→M7 2 [.val (.ref (b + 1)),.val (.int (nI i)),l2] [] (put (b + 1) pre s A post) Q:=by
  intro c
  induction c with
  | zero =>
    intro i l2 A e hK o2 hz hq
    have e0:=hK.e0
    have n32:=hK.n32
    have c1 : (nI i < nI n) = False:=lF (by omega) (by omega)
    rw [m7_2]
    simp [e0,c1,m7_0,m7_1u,m7_3,m7_4,m7_7,m7_10,m7_11u,m7_11i,m7_11r,m7_11g,m7_13,m7_14,m7_17,m7_20,m7_21,m7_24,m7_25,m7_27,m7_28,m7_29,m7_30,m7_31,m7_32,m7_35,m7_38,m7_41,m7_44,m7_45i,m7_47,m7_48,m7_51,m7_54,m7_55,m7_57,m7_58,m7_59,m7_60u,m7_60i,m7_60r,m7_60g,m7_61,m7_62,m7_65,m7_66,m7_67,m7_68,m7_69,m7_72,m7_73,m7_74,m7_75,m7_76,m7_79,m7_80,m7_81,m7_82,m7_85,m7_88,m7_89i,m7_91,m7_92,m7_95,m7_98,m7_99,m7_100,m7_103,m7_104,m7_105,m7_107,m7_108,m7_109,m7_112,m7_113,m7_114,m7_115,m7_116,m7_119,m7_120,m7_121,m7_122,m7_125,m7_126,m7_129,m7_130,m7_131,m7_132,m7_135,m7_138,m7_141,m7_142i,m7_144,m7_145,m7_148,m7_151,m7_152,m7_153,m7_156,m7_159,m7_162,nb0,nb1,ou_a,Option.toList_some,Option.toList_none,List.nil_append,List.cons_append]
    exact cpDW n 0 _ (fun _ => false,fun _ => 0,fun _ => 0) A (by omega) hK (fun i' j' h1 h2 => ⟨hz i' j' h1 h2 (by omega),fun q => by cases q⟩) o2 hq
  | succ c ih =>
    intro i l2 A e hK o2 hz hq
    have e0:=hK.e0
    have n32:=hK.n32
    have c1 : (nI i < nI n) = True:=lT (by omega) (by omega)
    rw [m7_2]
    simp [e0,c1,o2,m7_0,m7_1u,m7_3,m7_4,m7_7,m7_10,m7_11u,m7_11i,m7_11r,m7_11g,m7_13,m7_14,m7_17,m7_20,m7_21,m7_24,m7_25,m7_27,m7_28,m7_29,m7_30,m7_31,m7_32,m7_35,m7_38,m7_41,m7_44,m7_45i,m7_47,m7_48,m7_51,m7_54,m7_55,m7_57,m7_58,m7_59,m7_60u,m7_60i,m7_60r,m7_60g,m7_61,m7_62,m7_65,m7_66,m7_67,m7_68,m7_69,m7_72,m7_73,m7_74,m7_75,m7_76,m7_79,m7_80,m7_81,m7_82,m7_85,m7_88,m7_89i,m7_91,m7_92,m7_95,m7_98,m7_99,m7_100,m7_103,m7_104,m7_105,m7_107,m7_108,m7_109,m7_112,m7_113,m7_114,m7_115,m7_116,m7_119,m7_120,m7_121,m7_122,m7_125,m7_126,m7_129,m7_130,m7_131,m7_132,m7_135,m7_138,m7_141,m7_142i,m7_144,m7_145,m7_148,m7_151,m7_152,m7_153,m7_156,m7_159,m7_162,nb0,nb1,ou_a,Option.toList_some,Option.toList_none,List.nil_append,List.cons_append]
    exact cpZ (by omega) n 0 A (by omega) hK (fun i' j' h1 h2 h3 => hz i' j' h1 h2 (by omega)) (fun A' l' f' h' => ih (i + 1) _ A' (by omega) (hK.fo l' f') (okS_n _) h' (fun A'' l'' f'' h'' => hq A'' l'' (FO_t f' f'') h''))
theorem cpW (hK : KC n m vop vdel vk src dst reg s A) (hq : ∀ A',LN A'→FO A A'→PRc n (pairs n m reg vdel src dst) A'→Q none (put (b + 1) pre s A' post)) : M7 0 [.val (.ref (b + 1)),.unset,.unset] [] (put (b + 1) pre s A post) Q:=by
  simp [m7_0,m7_1u,m7_3,m7_4,m7_7,m7_10,m7_11u,m7_11i,m7_11r,m7_11g,m7_13,m7_14,m7_17,m7_20,m7_21,m7_24,m7_25,m7_27,m7_28,m7_29,m7_30,m7_31,m7_32,m7_35,m7_38,m7_41,m7_44,m7_45i,m7_47,m7_48,m7_51,m7_54,m7_55,m7_57,m7_58,m7_59,m7_60u,m7_60i,m7_60r,m7_60g,m7_61,m7_62,m7_65,m7_66,m7_67,m7_68,m7_69,m7_72,m7_73,m7_74,m7_75,m7_76,m7_79,m7_80,m7_81,m7_82,m7_85,m7_88,m7_89i,m7_91,m7_92,m7_95,m7_98,m7_99,m7_100,m7_103,m7_104,m7_105,m7_107,m7_108,m7_109,m7_112,m7_113,m7_114,m7_115,m7_116,m7_119,m7_120,m7_121,m7_122,m7_125,m7_126,m7_129,m7_130,m7_131,m7_132,m7_135,m7_138,m7_141,m7_142i,m7_144,m7_145,m7_148,m7_151,m7_152,m7_153,m7_156,m7_159,m7_162,nb0,nb1,ou_a,Option.toList_some,Option.toList_none,List.nil_append,List.cons_append]
  exact cpI n 0 _ A (by omega) hK okS_u (fun i' j' h1 h2 h3 => absurd h3 (by omega)) hq
theorem nar_b2 (b : Bool) : nar .boolean (b2 b) = b2 b:=by cases b <;> decide
def FD (A A' : Nat→List Int32) : Prop:=∀ k,k ≠ 12→A' k = A k
theorem FD_r (A : Nat→List Int32) : FD A A:=fun _ _ => rfl
theorem FD_t {A A' A'' : Nat→List Int32} (h : FD A A') (h' : FD A' A'') : FD A A'':=fun k a => (h' k a).trans (h k a)
theorem FD_o {A : Nat→List Int32} {l : List Int32} : FD A (ou A 12 l):=fun k a => by rw [ou_a,if_neg a]
theorem KC.fd {A' : Nat→List Int32} (h : KC n m vop vdel vk src dst reg s A) (hl : LN A') (f : FD A A') : KC n m vop vdel vk src dst reg s A':=h.ar hl (fun k hk => f k (by omega))
theorem PRc.fd {r : PR} {A' : Nat→List Int32} (h : PRc n r A) (f : FD A A') : PRc n r A':=by
  unfold PRc
  rw [f 9 (by decide),f 10 (by decide),f 11 (by decide)]
  exact h
set_option maxRecDepth 1000000 in
set_option maxHeartbeats 20000000 in
theorem rpVW {r : PR} {cc : Int32} {u : Nat} (hu : u < n) : ∀ (k v : Nat) (l5 l6 : Slot) (t : DC) (A : Nat→List Int32),v + k = n→KC n m vop vdel vk src dst reg s A→PRc n r A→CF (A 12) t.1 n→okS l5→okS l6 →
    (∀ l5 l6 A',okS l5→okS l6→LN A'→FD A A'→CF (A' 12) (rpV r vdel cc u k v t).1 n→M12 71 [.val (.ref (b + 1)),.val (.int (cc)),.val (.int (b2 (rpV r vdel cc u k v t).2)),.val (.int (nI (u + 1))),.val (.int (nI n)),l5,l6] [] (put (b + 1) pre s A' post) Q) →
    M12 82 [.val (.ref (b + 1)),.val (.int (cc)),.val (.int (b2 t.2)),.val (.int (nI u)),.val (.int (nI v)),l5,l6] [] (put (b + 1) pre s A post) Q:=by
  intro k
  induction k with
  | zero =>
    intro v l5 l6 t A e hK hP hd o5 o6 hq
    have e0:=hK.e0
    have n32:=hK.n32
    obtain rfl : v = n:=by omega
    have c1 : (nI v < nI v) = False:=lF (by omega) (by omega)
    rw [m12_82]
    simp [e0,c1,nI_1,m12_0,m12_1u,m12_2,m12_3u,m12_5,m12_6,m12_9,m12_12,m12_13,m12_16,m12_17,m12_18u,m12_18i,m12_18r,m12_18g,m12_20,m12_21,m12_24,m12_25,m12_28,m12_29,m12_30,m12_31,m12_32,m12_35,m12_36,m12_37,m12_38u,m12_38i,m12_38r,m12_38g,m12_40,m12_42,m12_43,m12_46,m12_48,m12_49,m12_52,m12_53,m12_56,m12_58,m12_60,m12_61,m12_62i,m12_63,m12_66,m12_69,m12_70i,m12_72,m12_73,m12_76,m12_79,m12_80u,m12_80i,m12_80r,m12_80g,m12_84,m12_85,m12_88,m12_91,m12_92,m12_94,m12_95,m12_97,m12_98u,m12_98i,m12_98r,m12_98g,m12_100,m12_101,m12_104,m12_106,m12_107,m12_110,m12_111,m12_114,m12_116,m12_117,m12_118,m12_121,m12_123,m12_124,m12_125,m12_126,m12_129,m12_130,m12_133,m12_135,m12_136,m12_137,m12_140,m12_142,m12_143,m12_144,m12_145,m12_146u,m12_146i,m12_146r,m12_146g,m12_148,m12_150,m12_151,m12_154,m12_155,m12_156,m12_159,m12_160,m12_163,m12_164,m12_166,m12_167,m12_168i,m12_169,m12_172,m12_175,m12_178,m12_181,m12_182,nb0,nb1,ou_a,Option.toList_some,Option.toList_none,List.nil_append,List.cons_append]
    exact hq _ _ A o5 o6 hK.ln (FD_r _) hd
  | succ k ih =>
    intro v l5 l6 t A e hK hP hd o5 o6 hq
    have e0:=hK.e0
    have n32:=hK.n32
    have c1 : (nI v < nI n) = True:=lT (by omega) (by omega)
    have q11:=in11 hK.ln (i:=u * 32 + v) (by omega)
    obtain ⟨v11,hv⟩:=hP u v hu (by omega)
    have l12:=ln12 hK.ln
    rw [rpV] at hq
    rw [m12_82]
    by_cases a : r.1 (u * 32 + v) = true
    · have v11' : getA (A 11) (nI (u * 32 + v)) = 1:=by rw [v11,a]; rfl
      obtain ⟨v9,v10⟩:=hv a
      have q9:=in9 hK.ln (i:=u * 32 + v) (by omega)
      have q10:=in10 hK.ln (i:=u * 32 + v) (by omega)
      have q1:=in1 hK.ln (i:=v) (by omega)
      have v1:=hK.vd v (by omega)
      by_cases a1 : cc < r.2.2 (u * 32 + v) + vdel v
      · have z1:=eq_true a1
        have q12:=in12 hK.ln (i:=v) (by omega)
        have w12:=in12 hK.ln (i:=u) (by omega)
        have d12:=hd v (by omega)
        have d12':=hd u hu
        rw [if_pos ⟨a,a1⟩] at hq
        by_cases a2 : t.1 v + r.2.1 (u * 32 + v) - 1 < t.1 u
        · have z2:=eq_true a2
          rw [if_pos a2] at hq
          simp [e0,c1,q11,v11',q10,v10,q1,v1,z1,q9,v9,q12,w12,d12,d12',z2,o5,o6,nI_32,nI_add,nI_1,m12_0,m12_1u,m12_2,m12_3u,m12_5,m12_6,m12_9,m12_12,m12_13,m12_16,m12_17,m12_18u,m12_18i,m12_18r,m12_18g,m12_20,m12_21,m12_24,m12_25,m12_28,m12_29,m12_30,m12_31,m12_32,m12_35,m12_36,m12_37,m12_38u,m12_38i,m12_38r,m12_38g,m12_40,m12_42,m12_43,m12_46,m12_48,m12_49,m12_52,m12_53,m12_56,m12_58,m12_60,m12_61,m12_62i,m12_63,m12_66,m12_69,m12_70i,m12_72,m12_73,m12_76,m12_79,m12_80u,m12_80i,m12_80r,m12_80g,m12_84,m12_85,m12_88,m12_91,m12_92,m12_94,m12_95,m12_97,m12_98u,m12_98i,m12_98r,m12_98g,m12_100,m12_101,m12_104,m12_106,m12_107,m12_110,m12_111,m12_114,m12_116,m12_117,m12_118,m12_121,m12_123,m12_124,m12_125,m12_126,m12_129,m12_130,m12_133,m12_135,m12_136,m12_137,m12_140,m12_142,m12_143,m12_144,m12_145,m12_146u,m12_146i,m12_146r,m12_146g,m12_148,m12_150,m12_151,m12_154,m12_155,m12_156,m12_159,m12_160,m12_163,m12_164,m12_166,m12_167,m12_168i,m12_169,m12_172,m12_175,m12_178,m12_181,m12_182,nb0,nb1,ou_a,Option.toList_some,Option.toList_none,List.nil_append,List.cons_append]
          exact ih (v + 1) _ _ (ou t.1 u (t.1 v + r.2.1 (u * 32 + v) - 1),true) _ (by omega) (hK.fd (LN_set hK.ln) FD_o) (hP.fd FD_o) (CF_set hd (by omega) (by omega) (by omega)) (okS_n _) (okS_i _) (fun l5 l6 A' o5 o6 l' f' h' => hq l5 l6 A' o5 o6 l' (FD_t FD_o f') h')
        · have z2:=eq_false a2
          rw [if_neg a2] at hq
          simp [e0,c1,q11,v11',q10,v10,q1,v1,z1,q9,v9,q12,w12,d12,d12',z2,o5,o6,nI_32,nI_add,nI_1,m12_0,m12_1u,m12_2,m12_3u,m12_5,m12_6,m12_9,m12_12,m12_13,m12_16,m12_17,m12_18u,m12_18i,m12_18r,m12_18g,m12_20,m12_21,m12_24,m12_25,m12_28,m12_29,m12_30,m12_31,m12_32,m12_35,m12_36,m12_37,m12_38u,m12_38i,m12_38r,m12_38g,m12_40,m12_42,m12_43,m12_46,m12_48,m12_49,m12_52,m12_53,m12_56,m12_58,m12_60,m12_61,m12_62i,m12_63,m12_66,m12_69,m12_70i,m12_72,m12_73,m12_76,m12_79,m12_80u,m12_80i,m12_80r,m12_80g,m12_84,m12_85,m12_88,m12_91,m12_92,m12_94,m12_95,m12_97,m12_98u,m12_98i,m12_98r,m12_98g,m12_100,m12_101,m12_104,m12_106,m12_107,m12_110,m12_111,m12_114,m12_116,m12_117,m12_118,m12_121,m12_123,m12_124,m12_125,m12_126,m12_129,m12_130,m12_133,m12_135,m12_136,m12_137,m12_140,m12_142,m12_143,m12_144,m12_145,m12_146u,m12_146i,m12_146r,m12_146g,m12_148,m12_150,m12_151,m12_154,m12_155,m12_156,m12_159,m12_160,m12_163,m12_164,m12_166,m12_167,m12_168i,m12_169,m12_172,m12_175,m12_178,m12_181,m12_182,nb0,nb1,ou_a,Option.toList_some,Option.toList_none,List.nil_append,List.cons_append]
          exact ih (v + 1) _ _ _ _ (by omega) hK hP hd (okS_n _) (okS_i _) hq
      · have z1:=eq_false a1
        rw [if_neg (fun q => a1 q.2)] at hq
        simp [e0,c1,q11,v11',q10,v10,q1,v1,z1,o5,nI_32,nI_add,nI_1,m12_0,m12_1u,m12_2,m12_3u,m12_5,m12_6,m12_9,m12_12,m12_13,m12_16,m12_17,m12_18u,m12_18i,m12_18r,m12_18g,m12_20,m12_21,m12_24,m12_25,m12_28,m12_29,m12_30,m12_31,m12_32,m12_35,m12_36,m12_37,m12_38u,m12_38i,m12_38r,m12_38g,m12_40,m12_42,m12_43,m12_46,m12_48,m12_49,m12_52,m12_53,m12_56,m12_58,m12_60,m12_61,m12_62i,m12_63,m12_66,m12_69,m12_70i,m12_72,m12_73,m12_76,m12_79,m12_80u,m12_80i,m12_80r,m12_80g,m12_84,m12_85,m12_88,m12_91,m12_92,m12_94,m12_95,m12_97,m12_98u,m12_98i,m12_98r,m12_98g,m12_100,m12_101,m12_104,m12_106,m12_107,m12_110,m12_111,m12_114,m12_116,m12_117,m12_118,m12_121,m12_123,m12_124,m12_125,m12_126,m12_129,m12_130,m12_133,m12_135,m12_136,m12_137,m12_140,m12_142,m12_143,m12_144,m12_145,m12_146u,m12_146i,m12_146r,m12_146g,m12_148,m12_150,m12_151,m12_154,m12_155,m12_156,m12_159,m12_160,m12_163,m12_164,m12_166,m12_167,m12_168i,m12_169,m12_172,m12_175,m12_178,m12_181,m12_182,nb0,nb1,ou_a,Option.toList_some,Option.toList_none,List.nil_append,List.cons_append]
        exact ih (v + 1) _ _ _ _ (by omega) hK hP hd (okS_n _) o6 hq
    · have a' : r.1 (u * 32 + v) = false:=by cases q : r.1 (u * 32 + v) <;> simp_all
      have v11' : getA (A 11) (nI (u * 32 + v)) = 0:=by rw [v11,a']; rfl
      rw [if_neg (fun q => a q.1)] at hq
      simp [e0,c1,q11,v11',o5,nI_32,nI_add,nI_1,m12_0,m12_1u,m12_2,m12_3u,m12_5,m12_6,m12_9,m12_12,m12_13,m12_16,m12_17,m12_18u,m12_18i,m12_18r,m12_18g,m12_20,m12_21,m12_24,m12_25,m12_28,m12_29,m12_30,m12_31,m12_32,m12_35,m12_36,m12_37,m12_38u,m12_38i,m12_38r,m12_38g,m12_40,m12_42,m12_43,m12_46,m12_48,m12_49,m12_52,m12_53,m12_56,m12_58,m12_60,m12_61,m12_62i,m12_63,m12_66,m12_69,m12_70i,m12_72,m12_73,m12_76,m12_79,m12_80u,m12_80i,m12_80r,m12_80g,m12_84,m12_85,m12_88,m12_91,m12_92,m12_94,m12_95,m12_97,m12_98u,m12_98i,m12_98r,m12_98g,m12_100,m12_101,m12_104,m12_106,m12_107,m12_110,m12_111,m12_114,m12_116,m12_117,m12_118,m12_121,m12_123,m12_124,m12_125,m12_126,m12_129,m12_130,m12_133,m12_135,m12_136,m12_137,m12_140,m12_142,m12_143,m12_144,m12_145,m12_146u,m12_146i,m12_146r,m12_146g,m12_148,m12_150,m12_151,m12_154,m12_155,m12_156,m12_159,m12_160,m12_163,m12_164,m12_166,m12_167,m12_168i,m12_169,m12_172,m12_175,m12_178,m12_181,m12_182,nb0,nb1,ou_a,Option.toList_some,Option.toList_none,List.nil_append,List.cons_append]
      exact ih (v + 1) _ _ _ _ (by omega) hK hP hd (okS_n _) o6 hq
set_option maxRecDepth 1000000 in
set_option maxHeartbeats 20000000 in
theorem rpUW {r : PR} {cc : Int32} : ∀ (k u : Nat) (l4 l5 l6 : Slot) (t : DC) (A : Nat→List Int32),u + k = n→KC n m vop vdel vk src dst reg s A→PRc n r A→CF (A 12) t.1 n→okS l4→okS l5→okS l6 →
    (∀ A',LN A'→FD A A'→CF (A' 12) (rpU n r vdel cc k u t).1 n→Q (some (.int (b2 (rpU n r vdel cc k u t).2))) (put (b + 1) pre s A' post)) →
    M12 71 [.val (.ref (b + 1)),.val (.int (cc)),.val (.int (b2 t.2)),.val (.int (nI u)),l4,l5,l6] [] (put (b + 1) pre s A post) Q:=by
  intro k
  induction k with
  | zero =>
    intro u l4 l5 l6 t A e hK hP hd o4 o5 o6 hq
    have e0:=hK.e0
    have n32:=hK.n32
    have c1 : (nI u < nI n) = False:=lF (by omega) (by omega)
    rw [m12_71]
    simp [e0,c1,nar_b2,m12_0,m12_1u,m12_2,m12_3u,m12_5,m12_6,m12_9,m12_12,m12_13,m12_16,m12_17,m12_18u,m12_18i,m12_18r,m12_18g,m12_20,m12_21,m12_24,m12_25,m12_28,m12_29,m12_30,m12_31,m12_32,m12_35,m12_36,m12_37,m12_38u,m12_38i,m12_38r,m12_38g,m12_40,m12_42,m12_43,m12_46,m12_48,m12_49,m12_52,m12_53,m12_56,m12_58,m12_60,m12_61,m12_62i,m12_63,m12_66,m12_69,m12_70i,m12_72,m12_73,m12_76,m12_79,m12_80u,m12_80i,m12_80r,m12_80g,m12_84,m12_85,m12_88,m12_91,m12_92,m12_94,m12_95,m12_97,m12_98u,m12_98i,m12_98r,m12_98g,m12_100,m12_101,m12_104,m12_106,m12_107,m12_110,m12_111,m12_114,m12_116,m12_117,m12_118,m12_121,m12_123,m12_124,m12_125,m12_126,m12_129,m12_130,m12_133,m12_135,m12_136,m12_137,m12_140,m12_142,m12_143,m12_144,m12_145,m12_146u,m12_146i,m12_146r,m12_146g,m12_148,m12_150,m12_151,m12_154,m12_155,m12_156,m12_159,m12_160,m12_163,m12_164,m12_166,m12_167,m12_168i,m12_169,m12_172,m12_175,m12_178,m12_181,m12_182,nb0,nb1,ou_a,Option.toList_some,Option.toList_none,List.nil_append,List.cons_append]
    exact hq A hK.ln (FD_r _) hd
  | succ k ih =>
    intro u l4 l5 l6 t A e hK hP hd o4 o5 o6 hq
    have e0:=hK.e0
    have n32:=hK.n32
    have c1 : (nI u < nI n) = True:=lT (by omega) (by omega)
    rw [rpU] at hq
    rw [m12_71]
    simp [e0,c1,o4,m12_0,m12_1u,m12_2,m12_3u,m12_5,m12_6,m12_9,m12_12,m12_13,m12_16,m12_17,m12_18u,m12_18i,m12_18r,m12_18g,m12_20,m12_21,m12_24,m12_25,m12_28,m12_29,m12_30,m12_31,m12_32,m12_35,m12_36,m12_37,m12_38u,m12_38i,m12_38r,m12_38g,m12_40,m12_42,m12_43,m12_46,m12_48,m12_49,m12_52,m12_53,m12_56,m12_58,m12_60,m12_61,m12_62i,m12_63,m12_66,m12_69,m12_70i,m12_72,m12_73,m12_76,m12_79,m12_80u,m12_80i,m12_80r,m12_80g,m12_84,m12_85,m12_88,m12_91,m12_92,m12_94,m12_95,m12_97,m12_98u,m12_98i,m12_98r,m12_98g,m12_100,m12_101,m12_104,m12_106,m12_107,m12_110,m12_111,m12_114,m12_116,m12_117,m12_118,m12_121,m12_123,m12_124,m12_125,m12_126,m12_129,m12_130,m12_133,m12_135,m12_136,m12_137,m12_140,m12_142,m12_143,m12_144,m12_145,m12_146u,m12_146i,m12_146r,m12_146g,m12_148,m12_150,m12_151,m12_154,m12_155,m12_156,m12_159,m12_160,m12_163,m12_164,m12_166,m12_167,m12_168i,m12_169,m12_172,m12_175,m12_178,m12_181,m12_182,nb0,nb1,ou_a,Option.toList_some,Option.toList_none,List.nil_append,List.cons_append]
    exact rpVW (by omega) n 0 _ _ t A (by omega) hK hP hd o5 o6 (fun l5 l6 A' o5 o6 l' f' h' => ih (u + 1) _ _ _ _ A' (by omega) (hK.fd l' f') (hP.fd f') h' (okS_n _) o5 o6 (fun A'' l'' f'' h'' => hq A'' l'' (FD_t f' f'') h''))
set_option maxRecDepth 1000000 in
set_option maxHeartbeats 20000000 in
theorem rpEW {r : PR} {cc : Int32} : ∀ (k e : Nat) (l4 l5 : Slot) (t : DC) (A : Nat→List Int32),e + k = m→KC n m vop vdel vk src dst reg s A→PRc n r A→CF (A 12) t.1 n→okS l4→okS l5 →
    (∀ A',LN A'→FD A A'→CF (A' 12) (rpU n r vdel cc n 0 (rpE reg src dst k e t)).1 n→Q (some (.int (b2 (rpU n r vdel cc n 0 (rpE reg src dst k e t)).2))) (put (b + 1) pre s A' post)) →
    M12 4 [.val (.ref (b + 1)),.val (.int (cc)),.val (.int (b2 t.2)),.val (.int (nI e)),l4,l5,.unset] [] (put (b + 1) pre s A post) Q:=by
  intro k
  induction k with
  | zero =>
    intro e l4 l5 t A er hK hP hd o4 o5 hq
    have e1:=hK.e1
    have m64:=hK.m64
    have c1 : (nI e < nI m) = False:=lF (by omega) (by omega)
    rw [m12_4]
    simp [e1,c1,m12_0,m12_1u,m12_2,m12_3u,m12_5,m12_6,m12_9,m12_12,m12_13,m12_16,m12_17,m12_18u,m12_18i,m12_18r,m12_18g,m12_20,m12_21,m12_24,m12_25,m12_28,m12_29,m12_30,m12_31,m12_32,m12_35,m12_36,m12_37,m12_38u,m12_38i,m12_38r,m12_38g,m12_40,m12_42,m12_43,m12_46,m12_48,m12_49,m12_52,m12_53,m12_56,m12_58,m12_60,m12_61,m12_62i,m12_63,m12_66,m12_69,m12_70i,m12_72,m12_73,m12_76,m12_79,m12_80u,m12_80i,m12_80r,m12_80g,m12_84,m12_85,m12_88,m12_91,m12_92,m12_94,m12_95,m12_97,m12_98u,m12_98i,m12_98r,m12_98g,m12_100,m12_101,m12_104,m12_106,m12_107,m12_110,m12_111,m12_114,m12_116,m12_117,m12_118,m12_121,m12_123,m12_124,m12_125,m12_126,m12_129,m12_130,m12_133,m12_135,m12_136,m12_137,m12_140,m12_142,m12_143,m12_144,m12_145,m12_146u,m12_146i,m12_146r,m12_146g,m12_148,m12_150,m12_151,m12_154,m12_155,m12_156,m12_159,m12_160,m12_163,m12_164,m12_166,m12_167,m12_168i,m12_169,m12_172,m12_175,m12_178,m12_181,m12_182,nb0,nb1,ou_a,Option.toList_some,Option.toList_none,List.nil_append,List.cons_append]
    exact rpUW n 0 _ _ _ t A (by omega) hK hP hd o4 o5 okS_u hq
  | succ k ih =>
    intro e l4 l5 t A er hK hP hd o4 o5 hq
    have e1:=hK.e1
    have m64:=hK.m64
    have n32:=hK.n32
    have sd:=hK.lt (e:=e) (by omega)
    have c1 : (nI e < nI m) = True:=lT (by omega) (by omega)
    have q3:=in3 hK.ln (i:=e) (by omega)
    have v3:=hK.sr e (by omega)
    have q4:=in4 hK.ln (i:=e) (by omega)
    have v4:=hK.ds e (by omega)
    have q5:=in5 hK.ln (i:=e) (by omega)
    have v5:=hK.rg e (by omega)
    have q12:=in12 hK.ln (i:=dst e) (by omega)
    have w12:=in12 hK.ln (i:=src e) (by omega)
    have d12:=hd (dst e) sd.2
    have d12':=hd (src e) sd.1
    have l12:=ln12 hK.ln
    rw [rpE] at hq
    rw [m12_4]
    by_cases a2 : t.1 (dst e) + reg e < t.1 (src e)
    · have z2:=eq_true a2
      rw [if_pos a2] at hq
      simp [e1,c1,q3,v3,q4,v4,q5,v5,q12,w12,d12,d12',z2,o4,o5,nI_1,m12_0,m12_1u,m12_2,m12_3u,m12_5,m12_6,m12_9,m12_12,m12_13,m12_16,m12_17,m12_18u,m12_18i,m12_18r,m12_18g,m12_20,m12_21,m12_24,m12_25,m12_28,m12_29,m12_30,m12_31,m12_32,m12_35,m12_36,m12_37,m12_38u,m12_38i,m12_38r,m12_38g,m12_40,m12_42,m12_43,m12_46,m12_48,m12_49,m12_52,m12_53,m12_56,m12_58,m12_60,m12_61,m12_62i,m12_63,m12_66,m12_69,m12_70i,m12_72,m12_73,m12_76,m12_79,m12_80u,m12_80i,m12_80r,m12_80g,m12_84,m12_85,m12_88,m12_91,m12_92,m12_94,m12_95,m12_97,m12_98u,m12_98i,m12_98r,m12_98g,m12_100,m12_101,m12_104,m12_106,m12_107,m12_110,m12_111,m12_114,m12_116,m12_117,m12_118,m12_121,m12_123,m12_124,m12_125,m12_126,m12_129,m12_130,m12_133,m12_135,m12_136,m12_137,m12_140,m12_142,m12_143,m12_144,m12_145,m12_146u,m12_146i,m12_146r,m12_146g,m12_148,m12_150,m12_151,m12_154,m12_155,m12_156,m12_159,m12_160,m12_163,m12_164,m12_166,m12_167,m12_168i,m12_169,m12_172,m12_175,m12_178,m12_181,m12_182,nb0,nb1,ou_a,Option.toList_some,Option.toList_none,List.nil_append,List.cons_append]
      exact ih (e + 1) _ _ (ou t.1 (src e) (t.1 (dst e) + reg e),true) _ (by omega) (hK.fd (LN_set hK.ln) FD_o) (hP.fd FD_o) (CF_set hd (by omega) (by omega) (by omega)) (okS_n _) (okS_i _) (fun A' l' f' h' => hq A' l' (FD_t FD_o f') h')
    · have z2:=eq_false a2
      rw [if_neg a2] at hq
      simp [e1,c1,q3,v3,q4,v4,q5,v5,q12,w12,d12,d12',z2,o4,o5,nI_1,m12_0,m12_1u,m12_2,m12_3u,m12_5,m12_6,m12_9,m12_12,m12_13,m12_16,m12_17,m12_18u,m12_18i,m12_18r,m12_18g,m12_20,m12_21,m12_24,m12_25,m12_28,m12_29,m12_30,m12_31,m12_32,m12_35,m12_36,m12_37,m12_38u,m12_38i,m12_38r,m12_38g,m12_40,m12_42,m12_43,m12_46,m12_48,m12_49,m12_52,m12_53,m12_56,m12_58,m12_60,m12_61,m12_62i,m12_63,m12_66,m12_69,m12_70i,m12_72,m12_73,m12_76,m12_79,m12_80u,m12_80i,m12_80r,m12_80g,m12_84,m12_85,m12_88,m12_91,m12_92,m12_94,m12_95,m12_97,m12_98u,m12_98i,m12_98r,m12_98g,m12_100,m12_101,m12_104,m12_106,m12_107,m12_110,m12_111,m12_114,m12_116,m12_117,m12_118,m12_121,m12_123,m12_124,m12_125,m12_126,m12_129,m12_130,m12_133,m12_135,m12_136,m12_137,m12_140,m12_142,m12_143,m12_144,m12_145,m12_146u,m12_146i,m12_146r,m12_146g,m12_148,m12_150,m12_151,m12_154,m12_155,m12_156,m12_159,m12_160,m12_163,m12_164,m12_166,m12_167,m12_168i,m12_169,m12_172,m12_175,m12_178,m12_181,m12_182,nb0,nb1,ou_a,Option.toList_some,Option.toList_none,List.nil_append,List.cons_append]
      exact ih (e + 1) _ _ _ _ (by omega) hK hP hd (okS_n _) (okS_i _) hq
theorem rpW {r : PR} {cc : Int32} {d : Nat→Int32} (hK : KC n m vop vdel vk src dst reg s A) (hP : PRc n r A) (hd : CF (A 12) d n) (hq : ∀ A',LN A'→FD A A'→CF (A' 12) (rpass n m reg vdel src dst r cc d).1 n→Q (some (.int (b2 (rpass n m reg vdel src dst r cc d).2))) (put (b + 1) pre s A' post)) :
    M12 0 [.val (.ref (b + 1)),.val (.int (cc)),.unset,.unset,.unset,.unset,.unset] [] (put (b + 1) pre s A post) Q:=by
  simp [m12_0,m12_1u,m12_2,m12_3u,m12_5,m12_6,m12_9,m12_12,m12_13,m12_16,m12_17,m12_18u,m12_18i,m12_18r,m12_18g,m12_20,m12_21,m12_24,m12_25,m12_28,m12_29,m12_30,m12_31,m12_32,m12_35,m12_36,m12_37,m12_38u,m12_38i,m12_38r,m12_38g,m12_40,m12_42,m12_43,m12_46,m12_48,m12_49,m12_52,m12_53,m12_56,m12_58,m12_60,m12_61,m12_62i,m12_63,m12_66,m12_69,m12_70i,m12_72,m12_73,m12_76,m12_79,m12_80u,m12_80i,m12_80r,m12_80g,m12_84,m12_85,m12_88,m12_91,m12_92,m12_94,m12_95,m12_97,m12_98u,m12_98i,m12_98r,m12_98g,m12_100,m12_101,m12_104,m12_106,m12_107,m12_110,m12_111,m12_114,m12_116,m12_117,m12_118,m12_121,m12_123,m12_124,m12_125,m12_126,m12_129,m12_130,m12_133,m12_135,m12_136,m12_137,m12_140,m12_142,m12_143,m12_144,m12_145,m12_146u,m12_146i,m12_146r,m12_146g,m12_148,m12_150,m12_151,m12_154,m12_155,m12_156,m12_159,m12_160,m12_163,m12_164,m12_166,m12_167,m12_168i,m12_169,m12_172,m12_175,m12_178,m12_181,m12_182,nb0,nb1,ou_a,Option.toList_some,Option.toList_none,List.nil_append,List.cons_append]
  exact rpEW m 0 _ _ (d,false) A (by omega) hK hP hd okS_u okS_u hq
set_option maxRecDepth 1000000 in
set_option maxHeartbeats 20000000 in
theorem feLW {r : PR} {cc : Int32} : ∀ (f p : Nat) (d : Nat→Int32) (A : Nat→List Int32),p + f = n + 2→KC n m vop vdel vk src dst reg s A→PRc n r A→CF (A 12) d n →
    (∀ A',LN A'→FD A A'→CF (A' 12) (feaL n m reg vdel src dst r cc f d).1 n→Q (some (.int (b2 (feaL n m reg vdel src dst r cc f d).2))) (put (b + 1) pre s A' post))→M11 25 [.val (.ref (b + 1)),.val (.int (cc)),.val (.int (nI p))] [] (put (b + 1) pre s A post) Q:=by
  intro f
  induction f with
  | zero =>
    intro p d A e hK hP hd hq
    have e0:=hK.e0
    have n32:=hK.n32
    have c1 : (nI (n + 1) < nI p) = True:=lT (by omega) (by omega)
    rw [m11_25]
    simp [e0,c1,nI_1,m11_0,m11_1u,m11_3,m11_4,m11_7,m11_10,m11_11,m11_14,m11_15,m11_16,m11_17,m11_20,m11_23,m11_24i,m11_26,m11_27,m11_30,m11_31,m11_32,m11_35,m11_36,m11_37,m11_40,m11_43,m11_44,m11_45,m11_48,m11_51,m11_52,nb0,nb1,ou_a,Option.toList_some,Option.toList_none,List.nil_append,List.cons_append]
    exact hq A hK.ln (FD_r _) hd
  | succ f ih =>
    intro p d A e hK hP hd hq
    have e0:=hK.e0
    have n32:=hK.n32
    have c1 : (nI (n + 1) < nI p) = False:=lF (by omega) (by omega)
    rw [feaL] at hq
    rw [m11_25]
    simp [e0,c1,nI_1,m11_0,m11_1u,m11_3,m11_4,m11_7,m11_10,m11_11,m11_14,m11_15,m11_16,m11_17,m11_20,m11_23,m11_24i,m11_26,m11_27,m11_30,m11_31,m11_32,m11_35,m11_36,m11_37,m11_40,m11_43,m11_44,m11_45,m11_48,m11_51,m11_52,nb0,nb1,ou_a,Option.toList_some,Option.toList_none,List.nil_append,List.cons_append]
    refine rpW hK hP hd (fun A1 l1 f1 h1 => ?_)
    by_cases z : (rpass n m reg vdel src dst r cc d).2 = true
    · have z1 : (b2 (rpass n m reg vdel src dst r cc d).2 = 0) = False:=by rw [z]; exact eq_false (by decide)
      rw [if_pos z] at hq
      simp [z1,nI_1,m11_0,m11_1u,m11_3,m11_4,m11_7,m11_10,m11_11,m11_14,m11_15,m11_16,m11_17,m11_20,m11_23,m11_24i,m11_26,m11_27,m11_30,m11_31,m11_32,m11_35,m11_36,m11_37,m11_40,m11_43,m11_44,m11_45,m11_48,m11_51,m11_52,nb0,nb1,ou_a,Option.toList_some,Option.toList_none,List.nil_append,List.cons_append]
      exact ih (p + 1) _ _ (by omega) (hK.fd l1 f1) (hP.fd f1) h1 (fun A' l' f' h' => hq A' l' (FD_t f1 f') h')
    · have z' : (rpass n m reg vdel src dst r cc d).2 = false:=by cases q : (rpass n m reg vdel src dst r cc d).2 <;> simp_all
      have z1 : (b2 (rpass n m reg vdel src dst r cc d).2 = 0) = True:=by rw [z']; exact eq_true (by decide)
      rw [if_neg z] at hq
      simp [z1,m11_0,m11_1u,m11_3,m11_4,m11_7,m11_10,m11_11,m11_14,m11_15,m11_16,m11_17,m11_20,m11_23,m11_24i,m11_26,m11_27,m11_30,m11_31,m11_32,m11_35,m11_36,m11_37,m11_40,m11_43,m11_44,m11_45,m11_48,m11_51,m11_52,nb0,nb1,ou_a,Option.toList_some,Option.toList_none,List.nil_append,List.cons_append]
      exact hq A1 l1 f1 h1
theorem feZ {r : PR} {cc : Int32} : ∀ (k i : Nat) (A : Nat→List Int32),i + k = n→KC n m vop vdel vk src dst reg s A→PRc n r A→CF (A 12) (fun _ => 0) i →
    (∀ A',LN A'→FD A A'→CF (A' 12) (feas n m reg vdel src dst r cc).1 n→Q (some (.int (b2 (feas n m reg vdel src dst r cc).2))) (put (b + 1) pre s A' post))→M11 2 [.val (.ref (b + 1)),.val (.int (cc)),.val (.int (nI i))] [] (put (b + 1) pre s A post) Q:=by
  intro k
  induction k with
  | zero =>
    intro i A e hK hP hd hq
    have e0:=hK.e0
    have n32:=hK.n32
    obtain rfl : i = n:=by omega
    have c1 : (nI i < nI i) = False:=lF (by omega) (by omega)
    rw [m11_2]
    simp [e0,c1,m11_0,m11_1u,m11_3,m11_4,m11_7,m11_10,m11_11,m11_14,m11_15,m11_16,m11_17,m11_20,m11_23,m11_24i,m11_26,m11_27,m11_30,m11_31,m11_32,m11_35,m11_36,m11_37,m11_40,m11_43,m11_44,m11_45,m11_48,m11_51,m11_52,nb0,nb1,ou_a,Option.toList_some,Option.toList_none,List.nil_append,List.cons_append]
    exact feLW (i + 2) 0 _ A (by omega) hK hP hd hq
  | succ k ih =>
    intro i A e hK hP hd hq
    have e0:=hK.e0
    have n32:=hK.n32
    have c1 : (nI i < nI n) = True:=lT (by omega) (by omega)
    have q12:=in12 hK.ln (i:=i) (by omega)
    have l12:=ln12 hK.ln
    rw [m11_2]
    simp [e0,c1,q12,nI_1,m11_0,m11_1u,m11_3,m11_4,m11_7,m11_10,m11_11,m11_14,m11_15,m11_16,m11_17,m11_20,m11_23,m11_24i,m11_26,m11_27,m11_30,m11_31,m11_32,m11_35,m11_36,m11_37,m11_40,m11_43,m11_44,m11_45,m11_48,m11_51,m11_52,nb0,nb1,ou_a,Option.toList_some,Option.toList_none,List.nil_append,List.cons_append]
    refine ih (i + 1) _ (by omega) (hK.fd (LN_set hK.ln) FD_o) (hP.fd FD_o) (fun j hj => ?_) (fun A' l' f' h' => hq A' l' (FD_t FD_o f') h')
    show getA (setA (A 12) _ _) _ = _
    rw [cf_set (by omega) (by omega) (by omega)]
    split
    · rfl
    · exact hd j (by omega)
theorem feW {r : PR} {cc : Int32} (hK : KC n m vop vdel vk src dst reg s A) (hP : PRc n r A) (hq : ∀ A',LN A'→FD A A'→CF (A' 12) (feas n m reg vdel src dst r cc).1 n→Q (some (.int (b2 (feas n m reg vdel src dst r cc).2))) (put (b + 1) pre s A' post)) :
    M11 0 [.val (.ref (b + 1)),.val (.int (cc)),.unset] [] (put (b + 1) pre s A post) Q:=by
  simp [m11_0,m11_1u,m11_3,m11_4,m11_7,m11_10,m11_11,m11_14,m11_15,m11_16,m11_17,m11_20,m11_23,m11_24i,m11_26,m11_27,m11_30,m11_31,m11_32,m11_35,m11_36,m11_37,m11_40,m11_43,m11_44,m11_45,m11_48,m11_51,m11_52,nb0,nb1,ou_a,Option.toList_some,Option.toList_none,List.nil_append,List.cons_append]
  exact feZ n 0 A (by omega) hK hP (fun i hi => absurd hi (by omega)) hq
set_option maxRecDepth 1000000 in
set_option maxHeartbeats 20000000 in
theorem smL {r : PR} : ∀ (f t : Nat) (lo hi : Int32) (l4 : Slot) (A : Nat→List Int32),t + f = 40→KC n m vop vdel vk src dst reg s A→PRc n r A→okS l4 →
    (∀ A',LN A'→FD A A'→Q (some (.int (smin (fun cc => (feas n m reg vdel src dst r cc).2) f lo hi))) (put (b + 1) pre s A' post))→M10 9 [.val (.ref (b + 1)),.val (.int (lo)),.val (.int (hi)),.val (.int (nI t)),l4] [] (put (b + 1) pre s A post) Q:=by
  intro f
  induction f with
  | zero =>
    intro t lo hi l4 A e hK hP o4 hq
    have c1 : (nI t < 40) = False:=lF (c:=40) (by omega) (by omega)
    rw [m10_9]
    simp [c1,m10_0,m10_1u,m10_2,m10_3,m10_6u,m10_7,m10_8u,m10_10,m10_12,m10_15,m10_16,m10_17,m10_20,m10_21,m10_22,m10_23,m10_24,m10_25,m10_26,m10_27u,m10_27i,m10_27r,m10_27g,m10_29,m10_30,m10_32,m10_35,m10_38,m10_40i,m10_41,m10_44,m10_46,m10_47,m10_48i,m10_49,m10_52,m10_55,m10_56,nb0,nb1,ou_a,Option.toList_some,Option.toList_none,List.nil_append,List.cons_append]
    exact hq A hK.ln (FD_r _)
  | succ f ih =>
    intro t lo hi l4 A e hK hP o4 hq
    have c1 : (nI t < 40) = True:=lT (c:=40) (by omega) (by decide)
    rw [smin] at hq
    rw [m10_9]
    by_cases z : lo < hi
    · have z1:=eq_true z
      simp only [if_pos z] at hq
      simp [c1,z1,o4,m10_0,m10_1u,m10_2,m10_3,m10_6u,m10_7,m10_8u,m10_10,m10_12,m10_15,m10_16,m10_17,m10_20,m10_21,m10_22,m10_23,m10_24,m10_25,m10_26,m10_27u,m10_27i,m10_27r,m10_27g,m10_29,m10_30,m10_32,m10_35,m10_38,m10_40i,m10_41,m10_44,m10_46,m10_47,m10_48i,m10_49,m10_52,m10_55,m10_56,nb0,nb1,ou_a,Option.toList_some,Option.toList_none,List.nil_append,List.cons_append]
      refine feW hK hP (fun A1 l1 f1 h1 => ?_)
      by_cases y : (feas n m reg vdel src dst r (lo + (hi - lo) / 2)).2 = true
      · have y1 : (b2 (feas n m reg vdel src dst r (lo + (hi - lo) / 2)).2 = 0) = False:=by rw [y]; exact eq_false (by decide)
        rw [if_pos y] at hq
        simp [y1,nI_1,m10_0,m10_1u,m10_2,m10_3,m10_6u,m10_7,m10_8u,m10_10,m10_12,m10_15,m10_16,m10_17,m10_20,m10_21,m10_22,m10_23,m10_24,m10_25,m10_26,m10_27u,m10_27i,m10_27r,m10_27g,m10_29,m10_30,m10_32,m10_35,m10_38,m10_40i,m10_41,m10_44,m10_46,m10_47,m10_48i,m10_49,m10_52,m10_55,m10_56,nb0,nb1,ou_a,Option.toList_some,Option.toList_none,List.nil_append,List.cons_append]
        exact ih (t + 1) _ _ _ _ (by omega) (hK.fd l1 f1) (hP.fd f1) (okS_i _) (fun A' l' f' => hq A' l' (FD_t f1 f'))
      · have y' : (feas n m reg vdel src dst r (lo + (hi - lo) / 2)).2 = false:=by cases q : (feas n m reg vdel src dst r (lo + (hi - lo) / 2)).2 <;> simp_all
        have y1 : (b2 (feas n m reg vdel src dst r (lo + (hi - lo) / 2)).2 = 0) = True:=by rw [y']; exact eq_true (by decide)
        rw [if_neg y] at hq
        simp [y1,nI_1,m10_0,m10_1u,m10_2,m10_3,m10_6u,m10_7,m10_8u,m10_10,m10_12,m10_15,m10_16,m10_17,m10_20,m10_21,m10_22,m10_23,m10_24,m10_25,m10_26,m10_27u,m10_27i,m10_27r,m10_27g,m10_29,m10_30,m10_32,m10_35,m10_38,m10_40i,m10_41,m10_44,m10_46,m10_47,m10_48i,m10_49,m10_52,m10_55,m10_56,nb0,nb1,ou_a,Option.toList_some,Option.toList_none,List.nil_append,List.cons_append]
        exact ih (t + 1) _ _ _ _ (by omega) (hK.fd l1 f1) (hP.fd f1) (okS_i _) (fun A' l' f' => hq A' l' (FD_t f1 f'))
    · have z1:=eq_false z
      simp only [if_neg z] at hq
      simp [c1,z1,m10_0,m10_1u,m10_2,m10_3,m10_6u,m10_7,m10_8u,m10_10,m10_12,m10_15,m10_16,m10_17,m10_20,m10_21,m10_22,m10_23,m10_24,m10_25,m10_26,m10_27u,m10_27i,m10_27r,m10_27g,m10_29,m10_30,m10_32,m10_35,m10_38,m10_40i,m10_41,m10_44,m10_46,m10_47,m10_48i,m10_49,m10_52,m10_55,m10_56,nb0,nb1,ou_a,Option.toList_some,Option.toList_none,List.nil_append,List.cons_append]
      exact hq A hK.ln (FD_r _)
theorem smW {r : PR} (hK : KC n m vop vdel vk src dst reg s A) (hP : PRc n r A) (hq : ∀ A',LN A'→FD A A'→Q (some (.int (smin (fun cc => (feas n m reg vdel src dst r cc).2) 40 0 (s 6)))) (put (b + 1) pre s A' post)) : M10 0 [.val (.ref (b + 1)),.unset,.unset,.unset,.unset] [] (put (b + 1) pre s A post) Q:=by
  simp [m10_0,m10_1u,m10_2,m10_3,m10_6u,m10_7,m10_8u,m10_10,m10_12,m10_15,m10_16,m10_17,m10_20,m10_21,m10_22,m10_23,m10_24,m10_25,m10_26,m10_27u,m10_27i,m10_27r,m10_27g,m10_29,m10_30,m10_32,m10_35,m10_38,m10_40i,m10_41,m10_44,m10_46,m10_47,m10_48i,m10_49,m10_52,m10_55,m10_56,nb0,nb1,ou_a,Option.toList_some,Option.toList_none,List.nil_append,List.cons_append]
  exact smL 40 0 0 (s 6) _ A (by omega) hK hP okS_u hq
def FL (A A' : Nat→List Int32) : Prop:=∀ k,k ≠ 6→k ≠ 13→A' k = A k
theorem FL_t {A A' A'' : Nat→List Int32} (h : FL A A') (h' : FL A' A'') : FL A A'':=fun k a c => (h' k a c).trans (h k a c)
theorem FL_o {A : Nat→List Int32} {j : Nat} {l : List Int32} (h : j = 6 ∨ j = 13) : FL A (ou A j l):=fun k a c => by rw [ou_a,if_neg (by omega)]
theorem KC.fl {A' : Nat→List Int32} (h : KC n m vop vdel vk src dst reg s A) (hl : LN A') (f : FL A A') : KC n m vop vdel vk src dst reg s A':=h.ar hl (fun k hk => f k (by omega) (by omega))
set_option maxRecDepth 1000000 in
set_option maxHeartbeats 20000000 in
theorem alE {d : Nat→Int32} : ∀ (k e : Nat) (A : Nat→List Int32),e + k = m→KC n m vop vdel vk src dst reg s A→CF (A 13) (lagF d) n→CF (A 6) (newF reg d src dst) e →
    (∀ A',LN A'→FL A A'→CF (A' 13) (lagF d) n→CF (A' 6) (newF reg d src dst) m→Q none (put (b + 1) pre s A' post))→M13 37 [.val (.ref (b + 1)),.val (.int (nI e))] [] (put (b + 1) pre s A post) Q:=by
  intro k
  induction k with
  | zero =>
    intro e A er hK h13 h6 hq
    have e1:=hK.e1
    have m64:=hK.m64
    obtain rfl : e = m:=by omega
    have c1 : (nI e < nI e) = False:=lF (by omega) (by omega)
    rw [m13_37]
    simp [e1,c1,m13_0,m13_1u,m13_3,m13_4,m13_7,m13_10,m13_11,m13_14,m13_15,m13_16,m13_19,m13_20,m13_21,m13_22,m13_25,m13_26,m13_27,m13_28,m13_29,m13_32,m13_35,m13_36i,m13_38,m13_39,m13_42,m13_45,m13_46,m13_49,m13_50,m13_51,m13_54,m13_55,m13_56,m13_57,m13_60,m13_61,m13_64,m13_65,m13_66,m13_67,m13_68,m13_69,m13_72,m13_73,m13_76,m13_77,m13_78,m13_79,m13_80,m13_81,m13_84,m13_87,nb0,nb1,ou_a,Option.toList_some,Option.toList_none,List.nil_append,List.cons_append]
    exact hq A hK.ln (fun _ _ _ => rfl) h13 h6
  | succ k ih =>
    intro e A er hK h13 h6 hq
    have e1:=hK.e1
    have m64:=hK.m64
    have n32:=hK.n32
    have sd:=hK.lt (e:=e) (by omega)
    have c1 : (nI e < nI m) = True:=lT (by omega) (by omega)
    have q3:=in3 hK.ln (i:=e) (by omega)
    have v3:=hK.sr e (by omega)
    have q4:=in4 hK.ln (i:=e) (by omega)
    have v4:=hK.ds e (by omega)
    have q5:=in5 hK.ln (i:=e) (by omega)
    have v5:=hK.rg e (by omega)
    have q6:=in6 hK.ln (i:=e) (by omega)
    have q13:=in13 hK.ln (i:=dst e) (by omega)
    have w13:=in13 hK.ln (i:=src e) (by omega)
    have d13:=h13 (dst e) sd.2
    have d13':=h13 (src e) sd.1
    have l6:=ln6 hK.ln
    rw [m13_37]
    simp [e1,c1,q3,v3,q4,v4,q5,v5,q6,q13,w13,d13,d13',nI_1,m13_0,m13_1u,m13_3,m13_4,m13_7,m13_10,m13_11,m13_14,m13_15,m13_16,m13_19,m13_20,m13_21,m13_22,m13_25,m13_26,m13_27,m13_28,m13_29,m13_32,m13_35,m13_36i,m13_38,m13_39,m13_42,m13_45,m13_46,m13_49,m13_50,m13_51,m13_54,m13_55,m13_56,m13_57,m13_60,m13_61,m13_64,m13_65,m13_66,m13_67,m13_68,m13_69,m13_72,m13_73,m13_76,m13_77,m13_78,m13_79,m13_80,m13_81,m13_84,m13_87,nb0,nb1,ou_a,Option.toList_some,Option.toList_none,List.nil_append,List.cons_append]
    refine ih (e + 1) _ (by omega) (hK.fl (LN_set hK.ln) (FL_o (Or.inl rfl))) h13 (fun i hi => ?_) (fun A' l' f' h' h'' => hq A' l' (FL_t (FL_o (Or.inl rfl)) f') h' h'')
    show getA (setA (A 6) _ _) _ = _
    rw [cf_set (by omega) (by omega) (by omega)]
    split
    · rename_i z; rw [z]; rfl
    · exact h6 i (by omega)
theorem alV {d : Nat→Int32} : ∀ (k i : Nat) (A : Nat→List Int32),i + k = n→KC n m vop vdel vk src dst reg s A→CF (A 12) d n→CF (A 13) (lagF d) i →
    (∀ A',LN A'→FL A A'→CF (A' 13) (lagF d) n→CF (A' 6) (newF reg d src dst) m→Q none (put (b + 1) pre s A' post))→M13 2 [.val (.ref (b + 1)),.val (.int (nI i))] [] (put (b + 1) pre s A post) Q:=by
  intro k
  induction k with
  | zero =>
    intro i A er hK h12 h13 hq
    have e0:=hK.e0
    have n32:=hK.n32
    obtain rfl : i = n:=by omega
    have c1 : (nI i < nI i) = False:=lF (by omega) (by omega)
    rw [m13_2]
    simp [e0,c1,m13_0,m13_1u,m13_3,m13_4,m13_7,m13_10,m13_11,m13_14,m13_15,m13_16,m13_19,m13_20,m13_21,m13_22,m13_25,m13_26,m13_27,m13_28,m13_29,m13_32,m13_35,m13_36i,m13_38,m13_39,m13_42,m13_45,m13_46,m13_49,m13_50,m13_51,m13_54,m13_55,m13_56,m13_57,m13_60,m13_61,m13_64,m13_65,m13_66,m13_67,m13_68,m13_69,m13_72,m13_73,m13_76,m13_77,m13_78,m13_79,m13_80,m13_81,m13_84,m13_87,nb0,nb1,ou_a,Option.toList_some,Option.toList_none,List.nil_append,List.cons_append]
    exact alE m 0 A (by omega) hK h13 (fun i hi => absurd hi (by omega)) hq
  | succ k ih =>
    intro i A er hK h12 h13 hq
    have e0:=hK.e0
    have n32:=hK.n32
    have c1 : (nI i < nI n) = True:=lT (by omega) (by omega)
    have q12:=in12 hK.ln (i:=i) (by omega)
    have w12 : inB 0 (A 12):=in12 hK.ln (i:=0) (by omega)
    have d12:=h12 i (by omega)
    have d12' : getA (A 12) 0 = d 0:=h12 0 (by omega)
    have q13:=in13 hK.ln (i:=i) (by omega)
    have l13:=ln13 hK.ln
    rw [m13_2]
    simp [e0,c1,q12,w12,d12,d12',q13,nI_1,m13_0,m13_1u,m13_3,m13_4,m13_7,m13_10,m13_11,m13_14,m13_15,m13_16,m13_19,m13_20,m13_21,m13_22,m13_25,m13_26,m13_27,m13_28,m13_29,m13_32,m13_35,m13_36i,m13_38,m13_39,m13_42,m13_45,m13_46,m13_49,m13_50,m13_51,m13_54,m13_55,m13_56,m13_57,m13_60,m13_61,m13_64,m13_65,m13_66,m13_67,m13_68,m13_69,m13_72,m13_73,m13_76,m13_77,m13_78,m13_79,m13_80,m13_81,m13_84,m13_87,nb0,nb1,ou_a,Option.toList_some,Option.toList_none,List.nil_append,List.cons_append]
    refine ih (i + 1) _ (by omega) (hK.fl (LN_set hK.ln) (FL_o (Or.inr rfl))) h12 (fun j hj => ?_) (fun A' l' f' h' h'' => hq A' l' (FL_t (FL_o (Or.inr rfl)) f') h' h'')
    show getA (setA (A 13) _ _) _ = _
    rw [cf_set (by omega) (by omega) (by omega)]
    split
    · rename_i z; rw [z]; rfl
    · exact h13 j (by omega)
theorem alW {d : Nat→Int32} (hK : KC n m vop vdel vk src dst reg s A) (h12 : CF (A 12) d n) (hq : ∀ A',LN A'→FL A A'→CF (A' 13) (lagF d) n→CF (A' 6) (newF reg d src dst) m→Q none (put (b + 1) pre s A' post)) : M13 0 [.val (.ref (b + 1)),.unset] [] (put (b + 1) pre s A post) Q:=by
  simp [m13_0,m13_1u,m13_3,m13_4,m13_7,m13_10,m13_11,m13_14,m13_15,m13_16,m13_19,m13_20,m13_21,m13_22,m13_25,m13_26,m13_27,m13_28,m13_29,m13_32,m13_35,m13_36i,m13_38,m13_39,m13_42,m13_45,m13_46,m13_49,m13_50,m13_51,m13_54,m13_55,m13_56,m13_57,m13_60,m13_61,m13_64,m13_65,m13_66,m13_67,m13_68,m13_69,m13_72,m13_73,m13_76,m13_77,m13_78,m13_79,m13_80,m13_81,m13_84,m13_87,nb0,nb1,ou_a,Option.toList_some,Option.toList_none,List.nil_append,List.cons_append]
  exact alV n 0 A (by omega) hK h12 (fun i hi => absurd hi (by omega)) hq
set_option maxRecDepth 1000000 in
set_option maxHeartbeats 20000000 in
theorem evEW {sv : Nat→Int32} {v t : Nat} {op : Int32} (hK : KC n m vop vdel vk src dst reg s A) (hx : KX c m x A) (hv : v < n) (ht : t < 32) (hop : (op = 0) = False) (hX : ∀ e,e < m→0≤(x e).toInt) (hR : ∀ e,e < m→dst e = v→¬ nI t - x e < 0→getA (A 17) (nI (src e * 32 + (nI t - x e).toNatClampNeg)) = sv (src e * 32 + (nI t - x e).toNatClampNeg)) : ∀ (r e : Nat) (a : Int32) (l7 l8 : Slot),e + r = m→okS l7→okS l8→Q (some (.int (evE op x src dst sv v t r e a))) (put (b + 1) pre s A post) →
    M29 31 [.val (.ref (b + 1)),.val (.int (nI v)),.val (.int (nI t)),.val (.int (nI c)),.val (.int (op)),.val (.int (a)),.val (.int (nI e)),l7,l8] [] (put (b + 1) pre s A post) Q:=by
  have e1:=hK.e1
  have m64:=hK.m64
  have n32:=hK.n32
  intro r
  induction r with
  | zero =>
    intro e a l7 l8 er o7 o8 hq
    have c1 : (nI e < nI m) = False:=lF (by omega) (by omega)
    rw [m29_31]
    simp [e1,c1,m29_0,m29_1,m29_4,m29_5,m29_6u,m29_8,m29_10,m29_13,m29_14,m29_17,m29_18,m29_19,m29_20,m29_21,m29_24,m29_25,m29_26u,m29_28,m29_29u,m29_33,m29_34,m29_37,m29_40,m29_41,m29_44,m29_46,m29_47,m29_48,m29_51,m29_54,m29_55,m29_56,m29_58,m29_59,m29_62,m29_63u,m29_63i,m29_63r,m29_63g,m29_65,m29_66u,m29_66i,m29_66r,m29_66g,m29_68,m29_70,m29_73,m29_74,m29_77,m29_78,m29_81,m29_83,m29_84,m29_86,m29_87,m29_89,m29_90,m29_91i,m29_93,m29_95,m29_96,m29_99,m29_101,m29_103,m29_104i,m29_106,m29_109,m29_111,m29_112,m29_115,m29_117,m29_119,m29_120i,m29_122,m29_125,m29_127,m29_129,m29_130i,m29_132,m29_135,m29_138,m29_140,nb0,nb1,ou_a,Option.toList_some,Option.toList_none,List.nil_append,List.cons_append]
    exact hq
  | succ r ih =>
    intro e a l7 l8 er o7 o8 hq
    have sd:=hK.lt (e:=e) (by omega)
    have c1 : (nI e < nI m) = True:=lT (by omega) (by omega)
    have q4:=in4 hK.ln (i:=e) (by omega)
    have v4:=hK.ds e (by omega)
    rw [evE] at hq
    rw [m29_31]
    by_cases z : dst e = v
    · have z1 : (nI (dst e) = nI v) = True:=eq_true (congrArg nI z)
      rw [if_pos z] at hq
      simp [e1,c1,q4,v4,z1,m29_0,m29_1,m29_4,m29_5,m29_6u,m29_8,m29_10,m29_13,m29_14,m29_17,m29_18,m29_19,m29_20,m29_21,m29_24,m29_25,m29_26u,m29_28,m29_29u,m29_33,m29_34,m29_37,m29_40,m29_41,m29_44,m29_46,m29_47,m29_48,m29_51,m29_54,m29_55,m29_56,m29_58,m29_59,m29_62,m29_63u,m29_63i,m29_63r,m29_63g,m29_65,m29_66u,m29_66i,m29_66r,m29_66g,m29_68,m29_70,m29_73,m29_74,m29_77,m29_78,m29_81,m29_83,m29_84,m29_86,m29_87,m29_89,m29_90,m29_91i,m29_93,m29_95,m29_96,m29_99,m29_101,m29_103,m29_104i,m29_106,m29_109,m29_111,m29_112,m29_115,m29_117,m29_119,m29_120i,m29_122,m29_125,m29_127,m29_129,m29_130i,m29_132,m29_135,m29_138,m29_140,nb0,nb1,ou_a,Option.toList_some,Option.toList_none,List.nil_append,List.cons_append]
      refine xW hx (by omega) (by omega) hK.ln ?_
      have fin : ∀ y : Int32,y = (if nI t - x e < 0 then 0 else sv (src e * 32 + (nI t - x e).toNatClampNeg))→M29 93 [.val (.ref (b + 1)),.val (.int (nI v)),.val (.int (nI t)),.val (.int (nI c)),.val (.int (op)),.val (.int (a)),.val (.int (nI e)),.val (.int (nI t - x e)),.val (.int (y))] [] (put (b + 1) pre s A post) Q:=by
        intro y ey
        rw [← ey] at hq
        by_cases w1 : op = 1
        · rw [if_pos w1] at hq
          have w1':=eq_true w1
          simp [w1',nI_1,m29_0,m29_1,m29_4,m29_5,m29_6u,m29_8,m29_10,m29_13,m29_14,m29_17,m29_18,m29_19,m29_20,m29_21,m29_24,m29_25,m29_26u,m29_28,m29_29u,m29_33,m29_34,m29_37,m29_40,m29_41,m29_44,m29_46,m29_47,m29_48,m29_51,m29_54,m29_55,m29_56,m29_58,m29_59,m29_62,m29_63u,m29_63i,m29_63r,m29_63g,m29_65,m29_66u,m29_66i,m29_66r,m29_66g,m29_68,m29_70,m29_73,m29_74,m29_77,m29_78,m29_81,m29_83,m29_84,m29_86,m29_87,m29_89,m29_90,m29_91i,m29_93,m29_95,m29_96,m29_99,m29_101,m29_103,m29_104i,m29_106,m29_109,m29_111,m29_112,m29_115,m29_117,m29_119,m29_120i,m29_122,m29_125,m29_127,m29_129,m29_130i,m29_132,m29_135,m29_138,m29_140,nb0,nb1,ou_a,Option.toList_some,Option.toList_none,List.nil_append,List.cons_append]
          exact ih (e + 1) _ _ _ (by omega) (okS_i _) (okS_i _) hq
        · rw [if_neg w1] at hq
          have w1':=eq_false w1
          by_cases w2 : op = 2
          · rw [if_pos w2] at hq
            have w2':=eq_true w2
            simp [w1',w2',nI_1,m29_0,m29_1,m29_4,m29_5,m29_6u,m29_8,m29_10,m29_13,m29_14,m29_17,m29_18,m29_19,m29_20,m29_21,m29_24,m29_25,m29_26u,m29_28,m29_29u,m29_33,m29_34,m29_37,m29_40,m29_41,m29_44,m29_46,m29_47,m29_48,m29_51,m29_54,m29_55,m29_56,m29_58,m29_59,m29_62,m29_63u,m29_63i,m29_63r,m29_63g,m29_65,m29_66u,m29_66i,m29_66r,m29_66g,m29_68,m29_70,m29_73,m29_74,m29_77,m29_78,m29_81,m29_83,m29_84,m29_86,m29_87,m29_89,m29_90,m29_91i,m29_93,m29_95,m29_96,m29_99,m29_101,m29_103,m29_104i,m29_106,m29_109,m29_111,m29_112,m29_115,m29_117,m29_119,m29_120i,m29_122,m29_125,m29_127,m29_129,m29_130i,m29_132,m29_135,m29_138,m29_140,nb0,nb1,ou_a,Option.toList_some,Option.toList_none,List.nil_append,List.cons_append]
            exact ih (e + 1) _ _ _ (by omega) (okS_i _) (okS_i _) hq
          · rw [if_neg w2] at hq
            have w2':=eq_false w2
            simp [w1',w2',nI_1,m29_0,m29_1,m29_4,m29_5,m29_6u,m29_8,m29_10,m29_13,m29_14,m29_17,m29_18,m29_19,m29_20,m29_21,m29_24,m29_25,m29_26u,m29_28,m29_29u,m29_33,m29_34,m29_37,m29_40,m29_41,m29_44,m29_46,m29_47,m29_48,m29_51,m29_54,m29_55,m29_56,m29_58,m29_59,m29_62,m29_63u,m29_63i,m29_63r,m29_63g,m29_65,m29_66u,m29_66i,m29_66r,m29_66g,m29_68,m29_70,m29_73,m29_74,m29_77,m29_78,m29_81,m29_83,m29_84,m29_86,m29_87,m29_89,m29_90,m29_91i,m29_93,m29_95,m29_96,m29_99,m29_101,m29_103,m29_104i,m29_106,m29_109,m29_111,m29_112,m29_115,m29_117,m29_119,m29_120i,m29_122,m29_125,m29_127,m29_129,m29_130i,m29_132,m29_135,m29_138,m29_140,nb0,nb1,ou_a,Option.toList_some,Option.toList_none,List.nil_append,List.cons_append]
            exact ih (e + 1) _ _ _ (by omega) (okS_i _) (okS_i _) hq
      by_cases y : nI t - x e < 0
      · have y1:=eq_true y
        simp [y1,o7,o8,m29_0,m29_1,m29_4,m29_5,m29_6u,m29_8,m29_10,m29_13,m29_14,m29_17,m29_18,m29_19,m29_20,m29_21,m29_24,m29_25,m29_26u,m29_28,m29_29u,m29_33,m29_34,m29_37,m29_40,m29_41,m29_44,m29_46,m29_47,m29_48,m29_51,m29_54,m29_55,m29_56,m29_58,m29_59,m29_62,m29_63u,m29_63i,m29_63r,m29_63g,m29_65,m29_66u,m29_66i,m29_66r,m29_66g,m29_68,m29_70,m29_73,m29_74,m29_77,m29_78,m29_81,m29_83,m29_84,m29_86,m29_87,m29_89,m29_90,m29_91i,m29_95,m29_96,m29_99,m29_101,m29_103,m29_104i,m29_106,m29_109,m29_111,m29_112,m29_115,m29_117,m29_119,m29_120i,m29_122,m29_125,m29_127,m29_129,m29_130i,m29_132,m29_135,m29_138,m29_140,nb0,nb1,ou_a,Option.toList_some,Option.toList_none,List.nil_append,List.cons_append]
        exact fin 0 (by rw [if_pos y])
      · have y1:=eq_false y
        have hx0:=hX e (by omega)
        have q3:=in3 hK.ln (i:=e) (by omega)
        have v3:=hK.sr e (by omega)
        have tI:=nI_int (n:=t) (by omega)
        have bI : (nI t - x e).toInt = t - (x e).toInt:=by
          have xb:=Int32.toInt_lt (x e)
          have:=sub_i (a:=nI t) (b:=x e) (by omega) (by omega)
          rw [this,tI]
        have bn:=y
        rw [lt_i,show (0 : Int32).toInt = 0 from rfl,bI] at bn
        have kk : (nI t - x e).toNatClampNeg < 32:=by rw [toNat_eq,bI]; omega
        have ek : nI t - x e = nI (nI t - x e).toNatClampNeg:=by
          apply Int32.toInt_inj.mp
          rw [nI_int (by omega),toNat_eq]
          omega
        have hR':=hR e (by omega) z y
        have fin':=fin (sv (src e * 32 + (nI t - x e).toNatClampNeg)) (by rw [if_neg y])
        generalize (nI t - x e).toNatClampNeg = bk at *
        have ei : nI (src e * 32) + (nI t - x e) = nI (src e * 32 + bk):=by rw [ek,nI_add]
        have q17:=in17 hK.ln (i:=src e * 32 + bk) (by omega)
        simp [y1,q3,v3,ei,q17,hR',o7,o8,nI_32,m29_0,m29_1,m29_4,m29_5,m29_6u,m29_8,m29_10,m29_13,m29_14,m29_17,m29_18,m29_19,m29_20,m29_21,m29_24,m29_25,m29_26u,m29_28,m29_29u,m29_33,m29_34,m29_37,m29_40,m29_41,m29_44,m29_46,m29_47,m29_48,m29_51,m29_54,m29_55,m29_56,m29_58,m29_59,m29_62,m29_63u,m29_63i,m29_63r,m29_63g,m29_65,m29_66u,m29_66i,m29_66r,m29_66g,m29_68,m29_70,m29_73,m29_74,m29_77,m29_78,m29_81,m29_83,m29_84,m29_86,m29_87,m29_89,m29_90,m29_91i,m29_95,m29_96,m29_99,m29_101,m29_103,m29_104i,m29_106,m29_109,m29_111,m29_112,m29_115,m29_117,m29_119,m29_120i,m29_122,m29_125,m29_127,m29_129,m29_130i,m29_132,m29_135,m29_138,m29_140,nb0,nb1,ou_a,Option.toList_some,Option.toList_none,List.nil_append,List.cons_append]
        exact fin'
    · have z1 : (nI (dst e) = nI v) = False:=eq_false (nI_ne (by omega) (by omega) z)
      rw [if_neg z] at hq
      simp [e1,c1,q4,v4,z1,nI_1,m29_0,m29_1,m29_4,m29_5,m29_6u,m29_8,m29_10,m29_13,m29_14,m29_17,m29_18,m29_19,m29_20,m29_21,m29_24,m29_25,m29_26u,m29_28,m29_29u,m29_33,m29_34,m29_37,m29_40,m29_41,m29_44,m29_46,m29_47,m29_48,m29_51,m29_54,m29_55,m29_56,m29_58,m29_59,m29_62,m29_63u,m29_63i,m29_63r,m29_63g,m29_65,m29_66u,m29_66i,m29_66r,m29_66g,m29_68,m29_70,m29_73,m29_74,m29_77,m29_78,m29_81,m29_83,m29_84,m29_86,m29_87,m29_89,m29_90,m29_91i,m29_93,m29_95,m29_96,m29_99,m29_101,m29_103,m29_104i,m29_106,m29_109,m29_111,m29_112,m29_115,m29_117,m29_119,m29_120i,m29_122,m29_125,m29_127,m29_129,m29_130i,m29_132,m29_135,m29_138,m29_140,nb0,nb1,ou_a,Option.toList_some,Option.toList_none,List.nil_append,List.cons_append]
      exact ih (e + 1) _ _ _ (by omega) o7 o8 hq
theorem evW {inp sv : Nat→Int32} {v t : Nat} (hK : KC n m vop vdel vk src dst reg s A) (hx : KX c m x A) (hv : v < n) (ht : t < 32) (hi : getA (A 7) (nI t) = inp t) (hX : ∀ e,e < m→0≤(x e).toInt) (hR : ∀ e,e < m→dst e = v→¬ nI t - x e < 0→getA (A 17) (nI (src e * 32 + (nI t - x e).toNatClampNeg)) = sv (src e * 32 + (nI t - x e).toNatClampNeg)) (hq : Q (some (.int (evV m vop vk inp x src dst sv v t))) (put (b + 1) pre s A post)) :
    M29 0 [.val (.ref (b + 1)),.val (.int (nI v)),.val (.int (nI t)),.val (.int (nI c)),.unset,.unset,.unset,.unset,.unset] [] (put (b + 1) pre s A post) Q:=by
  have n32:=hK.n32
  have q0:=in0 hK.ln (i:=v) (by omega)
  have v0:=hK.vo v hv
  have q2:=in2 hK.ln (i:=v) (by omega)
  have v2:=hK.kk v hv
  have q7:=in7 hK.ln (i:=t) ht
  unfold evV at hq
  by_cases z : vop v = 0
  · rw [if_pos z] at hq
    have z1:=eq_true z
    simp [q0,v0,z1,q7,hi,m29_0,m29_1,m29_4,m29_5,m29_6u,m29_8,m29_10,m29_13,m29_14,m29_17,m29_18,m29_19,m29_20,m29_21,m29_24,m29_25,m29_26u,m29_28,m29_29u,m29_33,m29_34,m29_37,m29_40,m29_41,m29_44,m29_46,m29_47,m29_48,m29_51,m29_54,m29_55,m29_56,m29_58,m29_59,m29_62,m29_63u,m29_63i,m29_63r,m29_63g,m29_65,m29_66u,m29_66i,m29_66r,m29_66g,m29_68,m29_70,m29_73,m29_74,m29_77,m29_78,m29_81,m29_83,m29_84,m29_86,m29_87,m29_89,m29_90,m29_91i,m29_93,m29_95,m29_96,m29_99,m29_101,m29_103,m29_104i,m29_106,m29_109,m29_111,m29_112,m29_115,m29_117,m29_119,m29_120i,m29_122,m29_125,m29_127,m29_129,m29_130i,m29_132,m29_135,m29_138,m29_140,nb0,nb1,ou_a,Option.toList_some,Option.toList_none,List.nil_append,List.cons_append]
    exact hq
  · rw [if_neg z] at hq
    have z1:=eq_false z
    simp [q0,v0,z1,q2,v2,m29_0,m29_1,m29_4,m29_5,m29_6u,m29_8,m29_10,m29_13,m29_14,m29_17,m29_18,m29_19,m29_20,m29_21,m29_24,m29_25,m29_26u,m29_28,m29_29u,m29_33,m29_34,m29_37,m29_40,m29_41,m29_44,m29_46,m29_47,m29_48,m29_51,m29_54,m29_55,m29_56,m29_58,m29_59,m29_62,m29_63u,m29_63i,m29_63r,m29_63g,m29_65,m29_66u,m29_66i,m29_66r,m29_66g,m29_68,m29_70,m29_73,m29_74,m29_77,m29_78,m29_81,m29_83,m29_84,m29_86,m29_87,m29_89,m29_90,m29_91i,m29_93,m29_95,m29_96,m29_99,m29_101,m29_103,m29_104i,m29_106,m29_109,m29_111,m29_112,m29_115,m29_117,m29_119,m29_120i,m29_122,m29_125,m29_127,m29_129,m29_130i,m29_132,m29_135,m29_138,m29_140,nb0,nb1,ou_a,Option.toList_some,Option.toList_none,List.nil_append,List.cons_append]
    exact evEW hK hx hv ht z1 hX hR m 0 _ _ _ (by omega) okS_u okS_u hq
def FV (A A' : Nat→List Int32) : Prop:=∀ k,k ≠ 8→k ≠ 17→A' k = A k
theorem FV_r (A : Nat→List Int32) : FV A A:=fun _ _ _ => rfl
theorem FV_t {A A' A'' : Nat→List Int32} (h : FV A A') (h' : FV A' A'') : FV A A'':=fun k a c => (h' k a c).trans (h k a c)
theorem FV_o {A : Nat→List Int32} {j : Nat} {l : List Int32} (h : j = 8 ∨ j = 17) : FV A (ou A j l):=fun k a c => by rw [ou_a,if_neg (by omega)]
theorem KC.fv {A' : Nat→List Int32} (h : KC n m vop vdel vk src dst reg s A) (hl : LN A') (f : FV A A') : KC n m vop vdel vk src dst reg s A':=h.ar hl (fun k hk => f k (by omega) (by omega))
theorem KX.fv {A' : Nat→List Int32} (h : KX c m x A) (f : FV A A') : KX c m x A':=h.ar (f 5 (by decide) (by decide)) (f 6 (by decide) (by decide))
/-- known values: kp v t; at t the first i of the order as well -/
def SK (n : Nat) (o : Nat→Nat) (kp : Nat→Nat→Prop) (T t i : Nat) (sv : Nat→Int32) (A : Nat→List Int32) : Prop:=∀ v u,v < n→u < T→(kp v u ∨ u < t ∨ (u = t∧∃ j,j < i∧o j = v))→getA (A 17) (nI (v * 32 + u)) = sv (v * 32 + u)
set_option maxRecDepth 1000000 in
set_option maxHeartbeats 20000000 in
theorem siIW {inp : Nat→Int32} {o : Nat→Nat} {kp : Nat→Nat→Prop} {T t : Nat} {l2 : Slot} (hT32 : T≤32) (ht : t < T) (ho : ∀ i,i < n→o i < n) (hX : ∀ e,e < m→0≤(x e).toInt) (hT : ∀ i e,i < n→e < m→dst e = o i→x e = 0→kp (src e) t ∨ ∃ j,j < i∧o j = src e) (hi7 : ∀ u,u < T→getA (A 7) (nI u) = inp u) : ∀ (k i : Nat) (l5 : Slot) (sv : Nat→Int32) (A' : Nat→List Int32),i + k = n→LN A'→FV A A'→KC n m vop vdel vk src dst reg s A→KX c m x A→CN (A 14) o n→SK n o kp T t i sv A'→okS l5 →
    (∀ l5 A'',okS l5→LN A''→(∀ k,k ≠ 17→A'' k = A' k)→SK n o kp T t n (siI m vop vk inp x src dst o t k i sv) A''→M28 66 [.val (.ref (b + 1)),.val (.int (nI c)),l2,.val (.int (nI t)),.val (.int (nI n)),l5] [] (put (b + 1) pre s A'' post) Q) →
    M28 22 [.val (.ref (b + 1)),.val (.int (nI c)),l2,.val (.int (nI t)),.val (.int (nI i)),l5] [] (put (b + 1) pre s A' post) Q:=by
  intro k
  induction k with
  | zero =>
    intro i l5 sv A' e hl hf hK hx h14 hs o5 hq
    have e0:=hK.e0
    have n32:=hK.n32
    obtain rfl : i = n:=by omega
    have c1 : (nI i < nI i) = False:=lF (by omega) (by omega)
    rw [m28_22]
    simp [e0,c1,m28_0,m28_1,m28_2,m28_5,m28_6,m28_7u,m28_9,m28_10,m28_13,m28_14,m28_16,m28_19,m28_20u,m28_20i,m28_20r,m28_20g,m28_24,m28_25,m28_28,m28_31,m28_32,m28_35,m28_37,m28_38u,m28_38i,m28_38r,m28_38g,m28_40,m28_41,m28_44,m28_46,m28_48,m28_49,m28_50,m28_51,m28_52,m28_54,m28_55,m28_56,m28_59,m28_60,m28_63,m28_67,m28_70,m28_71,m28_73,m28_74,m28_75,m28_76,m28_77,m28_80,m28_81,m28_84,m28_85,m28_86,m28_88,m28_89,m28_90,m28_91,m28_92,m28_93,m28_96,m28_99,nb0,nb1,ou_a,Option.toList_some,Option.toList_none,List.nil_append,List.cons_append]
    exact hq _ A' o5 hl (fun _ _ => rfl) hs
  | succ k ih =>
    intro i l5 sv A' e hl hf hK hx h14 hs o5 hq
    have e0:=hK.e0
    have n32:=hK.n32
    have c1 : (nI i < nI n) = True:=lT (by omega) (by omega)
    have q14:=in14 hl (i:=i) (by omega)
    have v14 : getA (A' 14) (nI i) = nI (o i):=by rw [hf 14 (by decide) (by decide)]; exact h14 i (by omega)
    have hv:=ho i (by omega)
    have q17:=in17 hl (i:=o i * 32 + t) (by omega)
    have l17:=ln17 hl
    rw [siI] at hq
    rw [m28_22]
    simp [e0,c1,q14,v14,o5,nI_32,nI_add,m28_0,m28_1,m28_2,m28_5,m28_6,m28_7u,m28_9,m28_10,m28_13,m28_14,m28_16,m28_19,m28_20u,m28_20i,m28_20r,m28_20g,m28_24,m28_25,m28_28,m28_31,m28_32,m28_35,m28_37,m28_38u,m28_38i,m28_38r,m28_38g,m28_40,m28_41,m28_44,m28_46,m28_48,m28_49,m28_50,m28_51,m28_52,m28_54,m28_55,m28_56,m28_59,m28_60,m28_63,m28_66,m28_67,m28_70,m28_71,m28_73,m28_74,m28_75,m28_76,m28_77,m28_80,m28_81,m28_84,m28_85,m28_86,m28_88,m28_89,m28_90,m28_91,m28_92,m28_93,m28_96,m28_99,nb0,nb1,ou_a,Option.toList_some,Option.toList_none,List.nil_append,List.cons_append]
    refine evW (sv:=sv) (inp:=inp) (hK.fv hl hf) (hx.fv hf) hv (by omega) (by rw [hf 7 (by decide) (by decide)]; exact hi7 t ht) hX (fun e he hd hy => ?_) ?_
    · have hx0:=hX e he
      have tI:=nI_int (n:=t) (by omega)
      have bI : (nI t - x e).toInt = t - (x e).toInt:=by
        have xb:=Int32.toInt_lt (x e)
        have:=sub_i (a:=nI t) (b:=x e) (by omega) (by omega)
        rw [this,tI]
      have bn:=hy
      rw [lt_i,show (0 : Int32).toInt = 0 from rfl,bI] at bn
      have kb : ((nI t - x e).toNatClampNeg : Int) = t - (x e).toInt:=by rw [toNat_eq,bI]; omega
      refine hs _ _ (hK.lt he).1 (by omega) ?_
      by_cases z : x e = 0
      · have z0 : (x e).toInt = 0:=by rw [z]; rfl
        have et : (nI t - x e).toNatClampNeg = t:=by omega
        rw [et]
        exact (hT i e (by omega) he hd z).imp id (fun q => Or.inr ⟨rfl,q⟩)
      · have z0 : (x e).toInt ≠ 0:=fun q => z (Int32.toInt_inj.mp q)
        exact Or.inr (Or.inl (by omega))
    · simp [q17,nI_1,m28_0,m28_1,m28_2,m28_5,m28_6,m28_7u,m28_9,m28_10,m28_13,m28_14,m28_16,m28_19,m28_20u,m28_20i,m28_20r,m28_20g,m28_24,m28_25,m28_28,m28_31,m28_32,m28_35,m28_37,m28_38u,m28_38i,m28_38r,m28_38g,m28_40,m28_41,m28_44,m28_46,m28_48,m28_49,m28_50,m28_51,m28_52,m28_54,m28_55,m28_56,m28_59,m28_60,m28_63,m28_66,m28_67,m28_70,m28_71,m28_73,m28_74,m28_75,m28_76,m28_77,m28_80,m28_81,m28_84,m28_85,m28_86,m28_88,m28_89,m28_90,m28_91,m28_92,m28_93,m28_96,m28_99,nb0,nb1,ou_a,Option.toList_some,Option.toList_none,List.nil_append,List.cons_append]
      refine ih (i + 1) _ _ _ (by omega) (LN_set hl) (FV_t hf (FV_o (Or.inr rfl))) hK hx h14 (fun v u hv' hu hk => ?_) (okS_n _) (fun l5 A'' o5 l' f' h' => hq l5 A'' o5 l' (fun k hk => (f' k hk).trans (by rw [ou_a,if_neg hk])) h')
      show getA (setA (A' 17) _ _) _ = _
      rw [cf_set (by omega) (by omega) (by omega),ou_a]
      by_cases z : v * 32 + u = o i * 32 + t
      · rw [if_pos z,if_pos z]
      · rw [if_neg z,if_neg z]
        refine hs v u hv' hu ?_
        rcases hk with hk | hk | ⟨h1,j,h2,h3⟩
        · exact Or.inl hk
        · exact Or.inr (Or.inl hk)
        · refine Or.inr (Or.inr ⟨h1,j,?_,h3⟩)
          have : j ≠ i:=fun q => z (by rw [h1,← h3,q])
          omega
set_option maxRecDepth 1000000 in
set_option maxHeartbeats 20000000 in
theorem siTW {inp : Nat→Int32} {o : Nat→Nat} {kp : Nat→Nat→Prop} {T : Nat} (hn : 0 < n) (hT32 : T≤32) (ho : ∀ i,i < n→o i < n) (hoo : ∀ v t,v < n→t < T→kp v t ∨ ∃ j,j < n∧o j = v) (hX : ∀ e,e < m→0≤(x e).toInt) (hT : ∀ t i e,t < T→i < n→e < m→dst e = o i→x e = 0→kp (src e) t ∨ ∃ j,j < i∧o j = src e) (hc : c≤1) : ∀ (k t : Nat) (l4 l5 : Slot) (p : (Nat→Int32) × (Nat→Int32)) (A : Nat→List Int32),t + k = T→KC n m vop vdel vk src dst reg s A→KX c m x A→CN (A 14) o n→(∀ u,u < T→getA (A 7) (nI u) = inp u)→SK n o kp T t 0 p.1 A→(∀ u,u < t→getA (A 8) (nI (c * 32 + u)) = p.2 (c * 32 + u))→okS l4→okS l5 →
    (∀ A',LN A'→FV A A'→SK n o kp T T 0 (siT n m vop vk inp x src dst o c k t p).1 A'→(∀ u,u < T→getA (A' 8) (nI (c * 32 + u)) = (siT n m vop vk inp x src dst o c k t p).2 (c * 32 + u))→(∀ u,¬ (c * 32≤u∧u < c * 32 + 32)→u < 64→getA (A' 8) (nI u) = getA (A 8) (nI u))→Q none (put (b + 1) pre s A' post)) →
    M28 8 [.val (.ref (b + 1)),.val (.int (nI c)),.val (.int (nI T)),.val (.int (nI t)),l4,l5] [] (put (b + 1) pre s A post) Q:=by
  intro k
  induction k with
  | zero =>
    intro t l4 l5 p A e hK hx h14 h7 hs h8 o4 o5 hq
    obtain rfl : t = T:=by omega
    have c1 : (nI t < nI t) = False:=lF (by omega) (by omega)
    rw [m28_8]
    simp [c1,m28_0,m28_1,m28_2,m28_5,m28_6,m28_7u,m28_9,m28_10,m28_13,m28_14,m28_16,m28_19,m28_20u,m28_20i,m28_20r,m28_20g,m28_24,m28_25,m28_28,m28_31,m28_32,m28_35,m28_37,m28_38u,m28_38i,m28_38r,m28_38g,m28_40,m28_41,m28_44,m28_46,m28_48,m28_49,m28_50,m28_51,m28_52,m28_54,m28_55,m28_56,m28_59,m28_60,m28_63,m28_66,m28_67,m28_70,m28_71,m28_73,m28_74,m28_75,m28_76,m28_77,m28_80,m28_81,m28_84,m28_85,m28_86,m28_88,m28_89,m28_90,m28_91,m28_92,m28_93,m28_96,m28_99,nb0,nb1,ou_a,Option.toList_some,Option.toList_none,List.nil_append,List.cons_append]
    exact hq A hK.ln (FV_r _) hs h8 (fun _ _ _ => rfl)
  | succ k ih =>
    intro t l4 l5 p A e hK hx h14 h7 hs h8 o4 o5 hq
    have e0:=hK.e0
    have n32:=hK.n32
    have c1 : (nI t < nI T) = True:=lT (by omega) (by omega)
    have c2 : (nI t < 32) = True:=lT (c:=32) (by omega) (by decide)
    rw [siT] at hq
    rw [m28_8]
    simp [c1,c2,o4,m28_0,m28_1,m28_2,m28_5,m28_6,m28_7u,m28_9,m28_10,m28_13,m28_14,m28_16,m28_19,m28_20u,m28_20i,m28_20r,m28_20g,m28_24,m28_25,m28_28,m28_31,m28_32,m28_35,m28_37,m28_38u,m28_38i,m28_38r,m28_38g,m28_40,m28_41,m28_44,m28_46,m28_48,m28_49,m28_50,m28_51,m28_52,m28_54,m28_55,m28_56,m28_59,m28_60,m28_63,m28_66,m28_67,m28_70,m28_71,m28_73,m28_74,m28_75,m28_76,m28_77,m28_80,m28_81,m28_84,m28_85,m28_86,m28_88,m28_89,m28_90,m28_91,m28_92,m28_93,m28_96,m28_99,nb0,nb1,ou_a,Option.toList_some,Option.toList_none,List.nil_append,List.cons_append]
    refine siIW hT32 (by omega) ho hX (fun i e => hT t i e (by omega)) h7 n 0 _ p.1 A (by omega) hK.ln (FV_r _) hK hx h14 hs o5 (fun l5 A1 o5 l1 f1 h1 => ?_)
    have q8:=in8 l1 (i:=c * 32 + t) (by omega)
    have l8:=ln8 l1
    have q17:=in17 l1 (i:=(n - 1) * 32 + t) (by omega)
    have v17:=h1 (n - 1) t (by omega) (by omega) ((hoo (n - 1) t (by omega) (by omega)).imp id (fun q => Or.inr ⟨rfl,q⟩))
    have en : nI n - 1 = nI (n - 1):=nI_sub (c:=1) hn
    simp [e0,en,q8,q17,v17,nI_32,nI_add,nI_1,m28_0,m28_1,m28_2,m28_5,m28_6,m28_7u,m28_9,m28_10,m28_13,m28_14,m28_16,m28_19,m28_20u,m28_20i,m28_20r,m28_20g,m28_24,m28_25,m28_28,m28_31,m28_32,m28_35,m28_37,m28_38u,m28_38i,m28_38r,m28_38g,m28_40,m28_41,m28_44,m28_46,m28_48,m28_49,m28_50,m28_51,m28_52,m28_54,m28_55,m28_56,m28_59,m28_60,m28_63,m28_66,m28_67,m28_70,m28_71,m28_73,m28_74,m28_75,m28_76,m28_77,m28_80,m28_81,m28_84,m28_85,m28_86,m28_88,m28_89,m28_90,m28_91,m28_92,m28_93,m28_96,m28_99,nb0,nb1,ou_a,Option.toList_some,Option.toList_none,List.nil_append,List.cons_append]
    have f2 : FV A (ou A1 8 (setA (A1 8) (nI (c * 32 + t)) (siI m vop vk inp x src dst o t n 0 p.1 ((n - 1) * 32 + t)))):=fun k a d => by
      rw [ou_a,if_neg a]; exact f1 k d
    have e8 : A1 8 = A 8:=f1 8 (by decide)
    have e17 : ou A1 8 (setA (A1 8) (nI (c * 32 + t)) (siI m vop vk inp x src dst o t n 0 p.1 ((n - 1) * 32 + t))) 17 = A1 17:=by rw [ou_a,if_neg (by decide)]
    refine ih (t + 1) _ _ (siI m vop vk inp x src dst o t n 0 p.1,ou p.2 (c * 32 + t) (siI m vop vk inp x src dst o t n 0 p.1 ((n - 1) * 32 + t))) _ (by omega) (hK.fv (LN_set l1) f2) (hx.fv f2) ?_ ?_ ?_ ?_ (okS_n _) o5 (fun A' l' f' h' h'' h3 => hq A' l' (FV_t f2 f') h' h'' (fun u hu hu2 => ?_))
    · rw [f2 14 (by decide) (by decide)]; exact h14
    · intro u hu; rw [f2 7 (by decide) (by decide)]; exact h7 u hu
    · intro v u hv hu hk
      rw [e17]
      refine h1 v u hv hu ?_
      rcases hk with hk | hk | ⟨_,j,hj,_⟩
      · exact Or.inl hk
      · by_cases z : u = t
        · exact (hoo v t hv (by omega)).elim (fun q => Or.inl (z ▸ q)) (fun q => Or.inr (Or.inr ⟨z,q⟩))
        · exact Or.inr (Or.inl (by omega))
      · exact absurd hj (by omega)
    · intro u hu
      show getA (setA (A1 8) _ _) _ = ou p.2 _ _ _
      rw [cf_set (by omega) (by omega) (by omega),ou_a]
      by_cases z : u = t
      · rw [if_pos (by omega),if_pos (by omega)]
      · rw [if_neg (by omega),if_neg (by omega),e8]
        exact h8 u (by omega)
    · rw [h3 u hu hu2]
      show getA (setA (A1 8) _ _) _ = _
      rw [cf_set (by omega) (by omega) (by omega),if_neg (by omega),e8]
/-- the retimed state -/
def KR (n m : Nat) (vdel reg : Nat→Int32) (src dst : Nat→Nat) (s : Nat→Int32) (A : Nat→List Int32) : Prop:=0 < n∧(cO n m reg src dst).2 = n∧s 4 = 1∧s 5 = cM n m vdel reg src dst∧s 6 = (cP n m vdel reg src dst).2∧s 7 = cP1 n m vdel reg src dst∧CF (A 6) (cX n m vdel reg src dst) m∧CF (A 13) (lagF (cD n m vdel reg src dst)) n∧PRc n (cR n m vdel reg src dst) A
/-- ranges of delays and registers -/
def RGE (n m : Nat) (vdel reg : Nat→Int32) : Prop:=(∀ v,v < n→0≤(vdel v).toInt∧(vdel v).toInt≤15)∧(∀ e,e < m→0≤(reg e).toInt∧(reg e).toInt≤7)
theorem cX_nn (hn0 : 0 < n) (hK : KC n m vop vdel vk src dst reg s A) (hr : RGE n m vdel reg) (hT : (cO n m reg src dst).2 = n) : (∀ e,e < m→0≤(cX n m vdel reg src dst e).toInt)∧∃ p,cM n m vdel reg src dst = nI p∧p≤480:=by
  obtain ⟨p,e1,e2,e3⟩:=ret_c (arr:=fun _ => 0) hn0 hK.n32 hK.m64 (fun e he => hK.lt he) hr.2 hr.1 hT
  have eM : cM n m vdel reg src dst = nI p:=e1
  refine ⟨fun e he => ?_,p,eM,e2⟩
  have:=(e3 e he).1
  unfold cX cD
  rw [eM]
  exact this
theorem KC.sc {s' : Nat→Int32} (h : KC n m vop vdel vk src dst reg s A) (e : s' 0 = s 0) (e' : s' 1 = s 1) : KC n m vop vdel vk src dst reg s' A:=⟨e.trans h.1,e'.trans h.2.1,h.2.2⟩
set_option maxRecDepth 1000000 in
set_option maxHeartbeats 20000000 in
theorem rtW (hK : KC n m vop vdel vk src dst reg s A) (hr : RGE n m vdel reg) (hR : s 4 = 0 ∨ KR n m vdel reg src dst s A)
    (h1 : KR n m vdel reg src dst s A→Q (some (.int (cM n m vdel reg src dst))) (put (b + 1) pre s A post))
    (h2 : n = 0→s 4 = 0→Q (some (.int (-4))) (put (b + 1) pre s A post))
    (h3 : ∀ A',n ≠ 0→s 4 = 0→(cO n m reg src dst).2 ≠ n→LN A'→(∀ k,k ≠ 14→k ≠ 15→A' k = A k)→Q (some (.int (-5))) (put (b + 1) pre s A' post))
    (h4 : ∀ s' A',KR n m vdel reg src dst s' A'→LN A'→(∀ k,k < 6 ∨ k = 7 ∨ k = 8 ∨ k = 17→A' k = A k)→(∀ i,i < 4→s' i = s i)→Q (some (.int (cM n m vdel reg src dst))) (put (b + 1) pre s' A' post)) :
    M4 0 [.val (.ref (b + 1))] [] (put (b + 1) pre s A post) Q:=by
  have e0:=hK.e0
  have n32:=hK.n32
  have m64:=hK.m64
  rcases hR with hs | hs
  case inr =>
    have s4:=hs.2.2.1
    have s5:=hs.2.2.2.1
    simp [s4,s5,m4_0,m4_1,m4_4,m4_7,m4_8,m4_11,m4_12,m4_13,m4_16,m4_19,m4_21,m4_22,m4_23,m4_24,m4_27,m4_30,m4_32,m4_33,m4_34,m4_35,m4_36,m4_39,m4_42,m4_43,m4_46,m4_47,m4_48,m4_51,m4_54,m4_55,m4_56,m4_59,m4_62,m4_63,m4_64,m4_67,m4_68,m4_69,m4_72,m4_73,m4_74,m4_75,m4_76,m4_79,m4_82,m4_83,m4_84,m4_87,m4_88,m4_91,nb0,nb1,ou_a,Option.toList_some,Option.toList_none,List.nil_append,List.cons_append]
    exact h1 hs
  case inl =>
  by_cases z : n = 0
  · have z1 : (nI n = 0) = True:=eq_true (congrArg nI z)
    simp [hs,e0,z1,m4_0,m4_1,m4_4,m4_7,m4_8,m4_11,m4_12,m4_13,m4_16,m4_19,m4_21,m4_22,m4_23,m4_24,m4_27,m4_30,m4_32,m4_33,m4_34,m4_35,m4_36,m4_39,m4_42,m4_43,m4_46,m4_47,m4_48,m4_51,m4_54,m4_55,m4_56,m4_59,m4_62,m4_63,m4_64,m4_67,m4_68,m4_69,m4_72,m4_73,m4_74,m4_75,m4_76,m4_79,m4_82,m4_83,m4_84,m4_87,m4_88,m4_91,nb0,nb1,ou_a,Option.toList_some,Option.toList_none,List.nil_append,List.cons_append]
    exact h2 z hs
  have z1 : (nI n = 0) = False:=eq_false (nI_ne (c:=0) (by omega) (by decide) z)
  simp [hs,e0,z1,m4_0,m4_1,m4_4,m4_7,m4_8,m4_11,m4_12,m4_13,m4_16,m4_19,m4_21,m4_22,m4_23,m4_24,m4_27,m4_30,m4_32,m4_33,m4_34,m4_35,m4_36,m4_39,m4_42,m4_43,m4_46,m4_47,m4_48,m4_51,m4_54,m4_55,m4_56,m4_59,m4_62,m4_63,m4_64,m4_67,m4_68,m4_69,m4_72,m4_73,m4_74,m4_75,m4_76,m4_79,m4_82,m4_83,m4_84,m4_87,m4_88,m4_91,nb0,nb1,ou_a,Option.toList_some,Option.toList_none,List.nil_append,List.cons_append]
  refine tW (c:=0) (x:=reg) (kn:=0) (o0:=fun _ => 0) hK (Or.inl ⟨rfl,hK.rg⟩) (fun i hi => absurd hi (by omega)) (by omega) (fun A1 l1 f1 _ o1 => ?_)
  by_cases y : (cO n m reg src dst).2 = n
  · have y' : (topo n m reg src dst (fun _ => 0)).2 = n:=y
    rw [y'] at o1 ⊢
    rw [if_pos rfl]
    simp [m4_0,m4_1,m4_4,m4_7,m4_8,m4_11,m4_12,m4_13,m4_16,m4_19,m4_21,m4_22,m4_23,m4_24,m4_27,m4_30,m4_32,m4_33,m4_34,m4_35,m4_36,m4_39,m4_42,m4_43,m4_46,m4_47,m4_48,m4_51,m4_54,m4_55,m4_56,m4_59,m4_62,m4_63,m4_64,m4_67,m4_68,m4_69,m4_72,m4_73,m4_74,m4_75,m4_76,m4_79,m4_82,m4_83,m4_84,m4_87,m4_88,m4_91,nb0,nb1,ou_a,Option.toList_some,Option.toList_none,List.nil_append,List.cons_append]
    have hK1:=hK.ft l1 f1
    obtain ⟨k1,k2,k3,k4⟩:=topo_KO (x:=reg) n32 m64 (fun e he => hK.lt he) (fun _ => 0)
    rw [y'] at k1 k2 k3 k4
    obtain ⟨nn,_⟩:=cX_nn (by omega) hK hr y
    refine peW (c:=0) (x:=reg) (kp:=fun _ => False) (arr:=fun _ => 0) k2 (fun i e hi he hd hx => Or.inr (k4 i e hi he hx hd)) hK1 (Or.inl ⟨rfl,hK1.rg⟩) o1 (fun v hv q => q.elim) (fun A2 l2 f2 a2 => ?_)
    have eP : peI m reg vdel src dst (topo n m reg src dst (fun _ => 0)).1 n 0 (fun _ => 0,0) = cP n m vdel reg src dst:=rfl
    rw [eP] at a2 ⊢
    obtain ⟨best,hb⟩ : ∃ best,best = (cP n m vdel reg src dst).2:=⟨_,rfl⟩
    rw [← hb]
    have hK2 : KC n m vop vdel vk src dst reg s A2:=hK1.ar l2 (fun k hk => f2 k (by omega))
    simp [m4_0,m4_1,m4_4,m4_7,m4_8,m4_11,m4_12,m4_13,m4_16,m4_19,m4_21,m4_22,m4_23,m4_24,m4_27,m4_30,m4_32,m4_33,m4_34,m4_35,m4_36,m4_39,m4_42,m4_43,m4_46,m4_47,m4_48,m4_51,m4_54,m4_55,m4_56,m4_59,m4_62,m4_63,m4_64,m4_67,m4_68,m4_69,m4_72,m4_73,m4_74,m4_75,m4_76,m4_79,m4_82,m4_83,m4_84,m4_87,m4_88,m4_91,nb0,nb1,ou_a,Option.toList_some,Option.toList_none,List.nil_append,List.cons_append]
    refine cpW (hK2.sc rfl rfl) (fun A3 l3 f3 r3 => ?_)
    have eR : pairs n m reg vdel src dst = cR n m vdel reg src dst:=rfl
    rw [eR] at r3
    have hK3:=hK2.fo l3 f3
    simp [m4_0,m4_1,m4_4,m4_7,m4_8,m4_11,m4_12,m4_13,m4_16,m4_19,m4_21,m4_22,m4_23,m4_24,m4_27,m4_30,m4_32,m4_33,m4_34,m4_35,m4_36,m4_39,m4_42,m4_43,m4_46,m4_47,m4_48,m4_51,m4_54,m4_55,m4_56,m4_59,m4_62,m4_63,m4_64,m4_67,m4_68,m4_69,m4_72,m4_73,m4_74,m4_75,m4_76,m4_79,m4_82,m4_83,m4_84,m4_87,m4_88,m4_91,nb0,nb1,ou_a,Option.toList_some,Option.toList_none,List.nil_append,List.cons_append]
    refine smW (hK3.sc rfl rfl) r3 (fun A4 l4 f4 => ?_)
    have hK4:=hK3.fd l4 f4
    have e6 : (ou s 6 best) 6 = best:=by rw [ou_a,if_pos rfl]
    rw [e6]
    obtain ⟨pm,hpm⟩ : ∃ pm,pm = smin (fun cc => (feas n m reg vdel src dst (cR n m vdel reg src dst) cc).2) 40 0 best:=⟨_,rfl⟩
    rw [← hpm]
    have eM : cM n m vdel reg src dst = pm:=by rw [hpm,hb]; rfl
    simp [m4_0,m4_1,m4_4,m4_7,m4_8,m4_11,m4_12,m4_13,m4_16,m4_19,m4_21,m4_22,m4_23,m4_24,m4_27,m4_30,m4_32,m4_33,m4_34,m4_35,m4_36,m4_39,m4_42,m4_43,m4_46,m4_47,m4_48,m4_51,m4_54,m4_55,m4_56,m4_59,m4_62,m4_63,m4_64,m4_67,m4_68,m4_69,m4_72,m4_73,m4_74,m4_75,m4_76,m4_79,m4_82,m4_83,m4_84,m4_87,m4_88,m4_91,nb0,nb1,ou_a,Option.toList_some,Option.toList_none,List.nil_append,List.cons_append]
    refine feW (hK4.sc rfl rfl) (r3.fd f4) (fun A5 l5 f5 d5 => ?_)
    have hK5:=hK4.fd l5 f5
    have eD : (feas n m reg vdel src dst (cR n m vdel reg src dst) pm).1 = cD n m vdel reg src dst:=by unfold cD; rw [eM]
    rw [eD] at d5
    generalize (feas n m reg vdel src dst (cR n m vdel reg src dst) pm).2 = fl
    simp [m4_0,m4_1,m4_4,m4_7,m4_8,m4_11,m4_12,m4_13,m4_16,m4_19,m4_21,m4_22,m4_23,m4_24,m4_27,m4_30,m4_32,m4_33,m4_34,m4_35,m4_36,m4_39,m4_42,m4_43,m4_46,m4_47,m4_48,m4_51,m4_54,m4_55,m4_56,m4_59,m4_62,m4_63,m4_64,m4_67,m4_68,m4_69,m4_72,m4_73,m4_74,m4_75,m4_76,m4_79,m4_82,m4_83,m4_84,m4_87,m4_88,m4_91,nb0,nb1,ou_a,Option.toList_some,Option.toList_none,List.nil_append,List.cons_append]
    refine alW (hK5.sc rfl rfl) d5 (fun A6 l6 f6 g6 x6 => ?_)
    have eX : newF reg (cD n m vdel reg src dst) src dst = cX n m vdel reg src dst:=rfl
    rw [eX] at x6
    have hK6:=hK5.fl l6 f6
    simp [m4_0,m4_1,m4_4,m4_7,m4_8,m4_11,m4_12,m4_13,m4_16,m4_19,m4_21,m4_22,m4_23,m4_24,m4_27,m4_30,m4_32,m4_33,m4_34,m4_35,m4_36,m4_39,m4_42,m4_43,m4_46,m4_47,m4_48,m4_51,m4_54,m4_55,m4_56,m4_59,m4_62,m4_63,m4_64,m4_67,m4_68,m4_69,m4_72,m4_73,m4_74,m4_75,m4_76,m4_79,m4_82,m4_83,m4_84,m4_87,m4_88,m4_91,nb0,nb1,ou_a,Option.toList_some,Option.toList_none,List.nil_append,List.cons_append]
    have o6 : CN (A6 14) (cO n m reg src dst).1 n:=by
      rw [f6 14 (by decide) (by decide),f5 14 (by decide),f4 14 (by decide),f3 14 (by decide) (by decide) (by decide),f2 14 (by decide)]
      exact o1
    refine tW (c:=1) (x:=cX n m vdel reg src dst) (kn:=n) (o0:=(cO n m reg src dst).1) (hK6.sc rfl rfl) (Or.inr ⟨rfl,x6⟩) o6 n32 (fun A7 l7 f7 o7 _ => ?_)
    have eO : topo n m (cX n m vdel reg src dst) src dst (cO n m reg src dst).1 = cO1 n m vdel reg src dst:=rfl
    rw [eO] at o7 ⊢
    have hK7:=hK6.ft l7 f7
    obtain ⟨j1,j2,_,_⟩:=topo_KO (x:=cX n m vdel reg src dst) n32 m64 (fun e he => hK.lt he) (cO n m reg src dst).1
    have kp:=topo_k (n:=n) (m:=m) (x:=cX n m vdel reg src dst) (src:=src) (dst:=dst) (cO n m reg src dst).1
    rw [eO] at j1 j2 kp
    have ho : ∀ i,i < n→(cO1 n m vdel reg src dst).1 i < n:=fun i hi => by
      by_cases q : i < (cO1 n m vdel reg src dst).2
      · exact j2 i q
      · rw [kp i (by omega)]; exact k2 i hi
    have x7 : CF (A7 6) (cX n m vdel reg src dst) m:=by rw [f7 6 (by decide) (by decide)]; exact x6
    have a7 : ∀ v,v < n→getA (A7 16) (nI v) = (cP n m vdel reg src dst).1 v:=fun v hv => by
      rw [f7 16 (by decide) (by decide),f6 16 (by decide) (by decide),f5 16 (by decide),f4 16 (by decide),f3 16 (by decide) (by decide) (by decide)]
      exact a2 v hv (Or.inr (PHs k2 k3 v hv))
    have r7 : PRc n (cR n m vdel reg src dst) A7:=by
      unfold PRc
      rw [f7 9 (by decide) (by decide),f7 10 (by decide) (by decide),f7 11 (by decide) (by decide),f6 9 (by decide) (by decide),f6 10 (by decide) (by decide),f6 11 (by decide) (by decide)]
      exact (r3.fd f4).fd f5
    generalize (if (cO1 n m vdel reg src dst).2 = n then (1 : Int32) else 0) = tl1
    simp [m4_0,m4_1,m4_4,m4_7,m4_8,m4_11,m4_12,m4_13,m4_16,m4_19,m4_21,m4_22,m4_23,m4_24,m4_27,m4_30,m4_32,m4_33,m4_34,m4_35,m4_36,m4_39,m4_42,m4_43,m4_46,m4_47,m4_48,m4_51,m4_54,m4_55,m4_56,m4_59,m4_62,m4_63,m4_64,m4_67,m4_68,m4_69,m4_72,m4_73,m4_74,m4_75,m4_76,m4_79,m4_82,m4_83,m4_84,m4_87,m4_88,m4_91,nb0,nb1,ou_a,Option.toList_some,Option.toList_none,List.nil_append,List.cons_append]
    refine peW (c:=1) (x:=cX n m vdel reg src dst) (kp:=fun _ => True) (arr:=(cP n m vdel reg src dst).1) ho (fun i e hi he hd hx => Or.inl trivial) (hK7.sc rfl rfl) (Or.inr ⟨rfl,x7⟩) o7 (fun v hv _ => a7 v hv) (fun A8 l8 f8 _ => ?_)
    have eQ : (peI m (cX n m vdel reg src dst) vdel src dst (cO1 n m vdel reg src dst).1 n 0 ((cP n m vdel reg src dst).1,0)).2 = cP1 n m vdel reg src dst:=rfl
    rw [eQ]
    have hh:=h4 (ou (ou (ou (ou s 6 best) 5 pm) 7 (cP1 n m vdel reg src dst)) 4 1) A8 ⟨by omega,y,by rw [ou_a,if_pos rfl],by rw [eM]; simp only [ou_a]; rfl,by rw [← hb]; simp only [ou_a]; rfl,by simp only [ou_a]; rfl,?_,?_,?_⟩ l8 (fun k hk => ?_) (fun i hi => ?_)
    · rw [eM] at hh
      generalize cP1 n m vdel reg src dst = q1 at *
      simp [m4_0,m4_1,m4_4,m4_7,m4_8,m4_11,m4_12,m4_13,m4_16,m4_19,m4_21,m4_22,m4_23,m4_24,m4_27,m4_30,m4_32,m4_33,m4_34,m4_35,m4_36,m4_39,m4_42,m4_43,m4_46,m4_47,m4_48,m4_51,m4_54,m4_55,m4_56,m4_59,m4_62,m4_63,m4_64,m4_67,m4_68,m4_69,m4_72,m4_73,m4_74,m4_75,m4_76,m4_79,m4_82,m4_83,m4_84,m4_87,m4_88,m4_91,nb0,nb1,ou_a,Option.toList_some,Option.toList_none,List.nil_append,List.cons_append]
      exact hh
    · rw [f8 6 (by decide)]; exact x7
    · rw [f8 13 (by decide),f7 13 (by decide) (by decide)]; exact g6
    · unfold PRc
      rw [f8 9 (by decide),f8 10 (by decide),f8 11 (by decide)]
      exact r7
    · rw [f8 k (by omega),f7 k (by omega) (by omega),f6 k (by omega) (by omega),f5 k (by omega),f4 k (by omega),f3 k (by omega) (by omega) (by omega),f2 k (by omega)]
      exact f1 k (by omega) (by omega)
    · simp only [ou_a]
      rw [if_neg (by omega),if_neg (by omega),if_neg (by omega),if_neg (by omega)]
  · have y' : ¬ (topo n m reg src dst (fun _ => 0)).2 = n:=y
    rw [if_neg y']
    simp [m4_0,m4_1,m4_4,m4_7,m4_8,m4_11,m4_12,m4_13,m4_16,m4_19,m4_21,m4_22,m4_23,m4_24,m4_27,m4_30,m4_32,m4_33,m4_34,m4_35,m4_36,m4_39,m4_42,m4_43,m4_46,m4_47,m4_48,m4_51,m4_54,m4_55,m4_56,m4_59,m4_62,m4_63,m4_64,m4_67,m4_68,m4_69,m4_72,m4_73,m4_74,m4_75,m4_76,m4_79,m4_82,m4_83,m4_84,m4_87,m4_88,m4_91,nb0,nb1,ou_a,Option.toList_some,Option.toList_none,List.nil_append,List.cons_append]
    exact h3 A1 z hs y l1 f1
set_option maxRecDepth 1000000 in
set_option maxHeartbeats 20000000 in
theorem scW {o0 : Nat→Nat} {inp sv out : Nat→Int32} {kp : Nat→Nat→Prop} {T : Nat} (hn : 0 < n) (hT32 : T≤32) (hK : KC n m vop vdel vk src dst reg s A) (hx : KX c m x A) (h14 : CN (A 14) o0 kn) (hkn : kn≤32) (hfull : kn = n ∨ (topo n m x src dst o0).2 = n) (ho : ∀ i,i < n→(topo n m x src dst o0).1 i < n) (hoo : ∀ v t,v < n→t < T→kp v t ∨ ∃ j,j < n∧(topo n m x src dst o0).1 j = v) (hX : ∀ e,e < m→0≤(x e).toInt) (hT : ∀ t i e,t < T→i < n→e < m→dst e = (topo n m x src dst o0).1 i→x e = 0→kp (src e) t ∨ ∃ j,j < i∧(topo n m x src dst o0).1 j = src e) (h7 : ∀ u,u < T→getA (A 7) (nI u) = inp u) (hs : ∀ v u,v < n→u < T→kp v u→getA (A 17) (nI (v * 32 + u)) = sv (v * 32 + u))
    (hq : ∀ A',LN A'→(∀ k,k ≠ 8→k ≠ 14→k ≠ 15→k ≠ 17→A' k = A k)→CN (A' 14) (topo n m x src dst o0).1 n→(∀ v u,v < n→u < T→getA (A' 17) (nI (v * 32 + u)) = (siT n m vop vk inp x src dst (topo n m x src dst o0).1 c T 0 (sv,out)).1 (v * 32 + u))→(∀ u,u < T→getA (A' 8) (nI (c * 32 + u)) = (siT n m vop vk inp x src dst (topo n m x src dst o0).1 c T 0 (sv,out)).2 (c * 32 + u))→(∀ u,¬ (c * 32≤u∧u < c * 32 + 32)→u < 64→getA (A' 8) (nI u) = getA (A 8) (nI u))→Q none (put (b + 1) pre s A' post)) :
    M28 0 [.val (.ref (b + 1)),.val (.int (nI c)),.val (.int (nI T)),.unset,.unset,.unset] [] (put (b + 1) pre s A post) Q:=by
  have c1:=hx.c1
  simp [m28_0,m28_1,m28_2,m28_5,m28_6,m28_7u,m28_9,m28_10,m28_13,m28_14,m28_16,m28_19,m28_20u,m28_20i,m28_20r,m28_20g,m28_24,m28_25,m28_28,m28_31,m28_32,m28_35,m28_37,m28_38u,m28_38i,m28_38r,m28_38g,m28_40,m28_41,m28_44,m28_46,m28_48,m28_49,m28_50,m28_51,m28_52,m28_54,m28_55,m28_56,m28_59,m28_60,m28_63,m28_66,m28_67,m28_70,m28_71,m28_73,m28_74,m28_75,m28_76,m28_77,m28_80,m28_81,m28_84,m28_85,m28_86,m28_88,m28_89,m28_90,m28_91,m28_92,m28_93,m28_96,m28_99,nb0,nb1,ou_a,Option.toList_some,Option.toList_none,List.nil_append,List.cons_append]
  refine tW hK hx h14 hkn (fun A1 l1 f1 q1 q2 => ?_)
  have o1 : CN (A1 14) (topo n m x src dst o0).1 n:=by
    rcases hfull with e | e
    · rw [e] at q1; exact q1
    · rw [e] at q2; exact q2
  simp [m28_0,m28_1,m28_2,m28_5,m28_6,m28_7u,m28_9,m28_10,m28_13,m28_14,m28_16,m28_19,m28_20u,m28_20i,m28_20r,m28_20g,m28_24,m28_25,m28_28,m28_31,m28_32,m28_35,m28_37,m28_38u,m28_38i,m28_38r,m28_38g,m28_40,m28_41,m28_44,m28_46,m28_48,m28_49,m28_50,m28_51,m28_52,m28_54,m28_55,m28_56,m28_59,m28_60,m28_63,m28_66,m28_67,m28_70,m28_71,m28_73,m28_74,m28_75,m28_76,m28_77,m28_80,m28_81,m28_84,m28_85,m28_86,m28_88,m28_89,m28_90,m28_91,m28_92,m28_93,m28_96,m28_99,nb0,nb1,ou_a,Option.toList_some,Option.toList_none,List.nil_append,List.cons_append]
  refine siTW (o:=(topo n m x src dst o0).1) (kp:=kp) hn hT32 ho hoo hX hT c1 T 0 _ _ (sv,out) A1 (by omega) (hK.ft l1 f1) (hx.ft f1) o1 (fun u hu => by rw [f1 7 (by decide) (by decide)]; exact h7 u hu) (fun v u hv hu hk => ?_) (fun u hu => absurd hu (by omega)) okS_u okS_u (fun A2 l2 f2 s2 u2 w2 => hq A2 l2 (fun k a b d e => by rw [f2 k a e]; exact f1 k b d) ?_ (fun v u hv hu => s2 v u hv hu (Or.inr (Or.inl hu))) u2 (fun u hu hu2 => by rw [w2 u hu hu2,f1 8 (by decide) (by decide)]))
  · rw [f1 17 (by decide) (by decide)]
    rcases hk with hk | hk | ⟨_,j,hj,_⟩
    · exact hs v u hv hu hk
    · exact absurd hk (by omega)
    · exact absurd hj (by omega)
  · rw [f2 14 (by decide) (by decide)]; exact o1
set_option maxRecDepth 1000000 in
set_option maxHeartbeats 20000000 in
theorem simW {ic : Nat} {inp : Nat→Int32} (hK : KC n m vop vdel vk src dst reg s A) (hr : RGE n m vdel reg) (hR : KR n m vdel reg src dst s A) (e2 : s 2 = nI ic) (ic32 : ic≤32) (h7 : CF (A 7) inp ic)
    (hq : ∀ A',LN A'→(∀ k,k ≠ 8→k ≠ 14→k ≠ 15→k ≠ 17→A' k = A k)→(∀ u,u < ic→getA (A' 8) (nI u) = (cS1 n m ic vop vk inp vdel reg src dst).2 u∧getA (A' 8) (nI (32 + u)) = (cS1 n m ic vop vk inp vdel reg src dst).2 (32 + u))→Q (some (.int (nI ic))) (put (b + 1) pre (ou s 3 (nI ic)) A' post)) :
    M26 0 [.val (.ref (b + 1)),.unset] [] (put (b + 1) pre s A post) Q:=by
  obtain ⟨n0,hT,s4,s5,s6,s7,x6,_,_⟩:=id hR
  have n32:=hK.n32
  have m64:=hK.m64
  obtain ⟨nn,_⟩:=cX_nn n0 hK hr hT
  obtain ⟨k1,k2,k3,k4⟩:=topo_KO (x:=reg) n32 m64 (fun e he => hK.lt he) (fun _ => 0)
  have hT' : (topo n m reg src dst (fun _ => 0)).2 = n:=hT
  rw [hT'] at k1 k2 k3 k4
  simp [s4,e2,m26_0,m26_1,m26_4,m26_7,m26_9,m26_10,m26_11,m26_14u,m26_15,m26_16,m26_17,m26_18,m26_21,m26_22,m26_23,m26_24,m26_27,m26_28,m26_29,m26_32,m26_33,nb0,nb1,ou_a,Option.toList_some,Option.toList_none,List.nil_append,List.cons_append]
  refine scW (c:=0) (x:=reg) (kn:=0) (o0:=fun _ => 0) (inp:=inp) (sv:=fun _ => 0) (out:=fun _ => 0) (kp:=fun _ _ => False) n0 ic32 hK (Or.inl ⟨rfl,hK.rg⟩) (fun i hi => absurd hi (by omega)) (by omega) (Or.inr hT) k2 (fun v t hv _ => Or.inr (PHs k2 k3 v hv)) (fun e he => (hr.2 e he).1) (fun t i e _ hi he hd hx => Or.inr (k4 i e hi he hx hd)) h7 (fun v u _ _ q => q.elim) (fun A1 l1 f1 o1 v1 u1 w1 => ?_)
  have hK1 : KC n m vop vdel vk src dst reg s A1:=hK.ar l1 (fun k hk => f1 k (by omega) (by omega) (by omega) (by omega))
  obtain ⟨j1,j2,_,_⟩:=topo_KO (x:=cX n m vdel reg src dst) n32 m64 (fun e he => hK.lt he) (topo n m reg src dst (fun _ => 0)).1
  have kp:=topo_k (n:=n) (m:=m) (x:=cX n m vdel reg src dst) (src:=src) (dst:=dst) (topo n m reg src dst (fun _ => 0)).1
  have ho : ∀ i,i < n→(topo n m (cX n m vdel reg src dst) src dst (topo n m reg src dst (fun _ => 0)).1).1 i < n:=fun i hi => by
    by_cases q : i < (topo n m (cX n m vdel reg src dst) src dst (topo n m reg src dst (fun _ => 0)).1).2
    · exact j2 i q
    · rw [kp i (by omega)]; exact k2 i hi
  simp [m26_0,m26_1,m26_4,m26_7,m26_9,m26_10,m26_11,m26_14u,m26_15,m26_16,m26_17,m26_18,m26_21,m26_22,m26_23,m26_24,m26_27,m26_28,m26_29,m26_32,m26_33,nb0,nb1,ou_a,Option.toList_some,Option.toList_none,List.nil_append,List.cons_append]
  refine scW (c:=1) (x:=cX n m vdel reg src dst) (kn:=n) (o0:=(topo n m reg src dst (fun _ => 0)).1) (inp:=inp) (sv:=(cS0 n m ic vop vk inp reg src dst).1) (out:=(cS0 n m ic vop vk inp reg src dst).2) (kp:=fun _ _ => True) n0 ic32 hK1 (Or.inr ⟨rfl,by rw [f1 6 (by decide) (by decide) (by decide) (by decide)]; exact x6⟩) o1 n32 (Or.inl rfl) ho (fun v t _ _ => Or.inl trivial) nn (fun t i e _ _ _ _ _ => Or.inl trivial) (fun u hu => by rw [f1 7 (by decide) (by decide) (by decide) (by decide)]; exact h7 u hu) (fun v u hv hu _ => v1 v u hv hu) (fun A2 l2 f2 _ _ u2 w2 => ?_)
  simp [m26_0,m26_1,m26_4,m26_7,m26_9,m26_10,m26_11,m26_14u,m26_15,m26_16,m26_17,m26_18,m26_21,m26_22,m26_23,m26_24,m26_27,m26_28,m26_29,m26_32,m26_33,nb0,nb1,ou_a,Option.toList_some,Option.toList_none,List.nil_append,List.cons_append]
  refine hq A2 l2 (fun k a c d e => by rw [f2 k a c d e]; exact f1 k a c d e) (fun u hu => ⟨?_,u2 u hu⟩)
  rw [w2 u (by omega) (by omega)]
  have h1:=u1 u hu
  rw [Nat.zero_mul,Nat.zero_add] at h1
  rw [h1]
  exact (siT_o (by omega) ic 0 _ (by omega)).symm
end Eng
section Obj
variable {b : Nat} {pre post : AHeap} {Q : Option Value→AHeap→Prop} {s : Nat→Int32} {A : Nat→List Int32} {n m ic : Nat} {vop vdel vk reg inp : Nat→Int32} {src dst : Nat→Nat}
def EO (n m ic : Nat) (vop vdel vk reg inp : Nat→Int32) (src dst : Nat→Nat) (s : Nat→Int32) (A : Nat→List Int32) : Prop:=KC n m vop vdel vk src dst reg s A∧RGE n m vdel reg∧s 2 = nI ic∧ic≤32∧CF (A 7) inp ic∧(s 4 = 0 ∨ KR n m vdel reg src dst s A)
theorem KR.st {s' : Nat→Int32} {A' : Nat→List Int32} (h : KR n m vdel reg src dst s A) (e : ∀ i,i = 4 ∨ i = 5 ∨ i = 6 ∨ i = 7→s' i = s i) (f : ∀ k,k = 6 ∨ k = 9 ∨ k = 10 ∨ k = 11 ∨ k = 13→A' k = A k) : KR n m vdel reg src dst s' A':=by
  obtain ⟨h1,h2,h3,h4,h5,h6,h7,h8,h9⟩:=h
  refine ⟨h1,h2,(e 4 (by omega)).trans h3,(e 5 (by omega)).trans h4,(e 6 (by omega)).trans h5,(e 7 (by omega)).trans h6,?_,?_,?_⟩
  · rw [f 6 (by omega)]; exact h7
  · rw [f 13 (by omega)]; exact h8
  · unfold PRc
    rw [f 9 (by omega),f 10 (by omega),f 11 (by omega)]
    exact h9
theorem EO.ln (h : EO n m ic vop vdel vk reg inp src dst s A) : LN A:=h.1.ln
/-- simulate's changes -/
theorem EO.sim {A' : Nat→List Int32} {z : Int32} (h : EO n m ic vop vdel vk reg inp src dst s A) (hl : LN A') (f : ∀ k,k ≠ 8→k ≠ 14→k ≠ 15→k ≠ 17→A' k = A k) : EO n m ic vop vdel vk reg inp src dst (ou s 3 z) A':=by
  obtain ⟨h1,h2,h3,h4,h5,h6⟩:=h
  refine ⟨(h1.ar hl (fun k hk => f k (by omega) (by omega) (by omega) (by omega))).sc rfl rfl,h2,h3,h4,?_,h6.imp id (fun q => q.st (fun i hi => by rw [ou_a,if_neg (by omega)]) (fun k hk => f k (by omega) (by omega) (by omega) (by omega)))⟩
  rw [f 7 (by decide) (by decide) (by decide) (by decide)]; exact h5
theorem EO.ret {s' : Nat→Int32} {A' : Nat→List Int32} (h : EO n m ic vop vdel vk reg inp src dst s A) (hR : KR n m vdel reg src dst s' A') (hl : LN A') (f : ∀ k,k < 6 ∨ k = 7 ∨ k = 8 ∨ k = 17→A' k = A k) (e : ∀ i,i < 4→s' i = s i) : EO n m ic vop vdel vk reg inp src dst s' A':=by
  obtain ⟨h1,h2,h3,h4,h5,h6⟩:=h
  refine ⟨(h1.ar hl (fun k hk => f k (by omega))).sc (e 0 (by decide)) (e 1 (by decide)),h2,(e 2 (by decide)).trans h3,h4,?_,Or.inr hR⟩
  rw [f 7 (by omega)]; exact h5
theorem EO.top {A' : Nat→List Int32} (h : EO n m ic vop vdel vk reg inp src dst s A) (s4 : s 4 = 0) (hl : LN A') (f : ∀ k,k ≠ 14→k ≠ 15→A' k = A k) : EO n m ic vop vdel vk reg inp src dst s A':=by
  obtain ⟨h1,h2,h3,h4,h5,h6⟩:=h
  refine ⟨h1.ft hl f,h2,h3,h4,?_,Or.inl s4⟩
  rw [f 7 (by decide) (by decide)]; exact h5
theorem rgn {v : Int32} {hi : Nat} (h : hi < 1000) (a : ¬ v < 0) (c : v < nI hi) : ∃ k,v = nI k∧k < hi:=by
  have e2:=nI_int (n:=hi) (by omega)
  rw [lt_i] at c
  rw [nn_i] at a
  obtain ⟨k,hk,e⟩:=rng (x:=v) (n:=hi) a (by omega)
  exact ⟨k,e,hk⟩
set_option maxRecDepth 1000000 in
set_option maxHeartbeats 20000000 in
theorem avW {op d k : Int32} (h : EO n m ic vop vdel vk reg inp src dst s A) (hr : ∀ v : Int32,v < 0→Q (some (.int v)) (put (b + 1) pre s A post)) (hq : ∀ s' A',EO (n + 1) m ic (ou vop n op) (ou vdel n d) (ou vk n k) reg inp src dst s' A'→s' 3 = 0→Q (some (.int (nI n))) (put (b + 1) pre s' A' post)) : M3 0 [.val (.ref (b + 1)),.val (.int (op)),.val (.int (d)),.val (.int (k))] [] (put (b + 1) pre s A post) Q:=by
  obtain ⟨hK,hG,e2,ic32,h7,h4⟩:=h
  have e0:=hK.e0
  have n32:=hK.n32
  by_cases a1 : op < 0
  · simp [a1,m3_0,m3_1,m3_4,m3_5,m3_6,m3_9,m3_11,m3_12,m3_13,m3_16,m3_17,m3_19,m3_22,m3_24,m3_25,m3_26,m3_29,m3_31,m3_34,m3_36,m3_37,m3_38,m3_41,m3_42,m3_45,m3_46,m3_47,m3_48,m3_51,m3_52,m3_55,m3_56,m3_57,m3_58,m3_61,m3_62,m3_65,m3_66,m3_67,m3_68,m3_69,m3_72,m3_73,m3_74,m3_77,m3_78,m3_79,m3_82,m3_83,m3_84,m3_87,m3_88,m3_91,m3_92,m3_93,nb0,nb1,ou_a,Option.toList_some,Option.toList_none,List.nil_append,List.cons_append]
    exact hr _ (by decide)
  by_cases a2 : 3 < op
  · simp [a1,a2,m3_0,m3_1,m3_4,m3_5,m3_6,m3_9,m3_11,m3_12,m3_13,m3_16,m3_17,m3_19,m3_22,m3_24,m3_25,m3_26,m3_29,m3_31,m3_34,m3_36,m3_37,m3_38,m3_41,m3_42,m3_45,m3_46,m3_47,m3_48,m3_51,m3_52,m3_55,m3_56,m3_57,m3_58,m3_61,m3_62,m3_65,m3_66,m3_67,m3_68,m3_69,m3_72,m3_73,m3_74,m3_77,m3_78,m3_79,m3_82,m3_83,m3_84,m3_87,m3_88,m3_91,m3_92,m3_93,nb0,nb1,ou_a,Option.toList_some,Option.toList_none,List.nil_append,List.cons_append]
    exact hr _ (by decide)
  by_cases a3 : d < 0
  · simp [a1,a2,a3,m3_0,m3_1,m3_4,m3_5,m3_6,m3_9,m3_11,m3_12,m3_13,m3_16,m3_17,m3_19,m3_22,m3_24,m3_25,m3_26,m3_29,m3_31,m3_34,m3_36,m3_37,m3_38,m3_41,m3_42,m3_45,m3_46,m3_47,m3_48,m3_51,m3_52,m3_55,m3_56,m3_57,m3_58,m3_61,m3_62,m3_65,m3_66,m3_67,m3_68,m3_69,m3_72,m3_73,m3_74,m3_77,m3_78,m3_79,m3_82,m3_83,m3_84,m3_87,m3_88,m3_91,m3_92,m3_93,nb0,nb1,ou_a,Option.toList_some,Option.toList_none,List.nil_append,List.cons_append]
    exact hr _ (by decide)
  by_cases a4 : 15 < d
  · simp [a1,a2,a3,a4,m3_0,m3_1,m3_4,m3_5,m3_6,m3_9,m3_11,m3_12,m3_13,m3_16,m3_17,m3_19,m3_22,m3_24,m3_25,m3_26,m3_29,m3_31,m3_34,m3_36,m3_37,m3_38,m3_41,m3_42,m3_45,m3_46,m3_47,m3_48,m3_51,m3_52,m3_55,m3_56,m3_57,m3_58,m3_61,m3_62,m3_65,m3_66,m3_67,m3_68,m3_69,m3_72,m3_73,m3_74,m3_77,m3_78,m3_79,m3_82,m3_83,m3_84,m3_87,m3_88,m3_91,m3_92,m3_93,nb0,nb1,ou_a,Option.toList_some,Option.toList_none,List.nil_append,List.cons_append]
    exact hr _ (by decide)
  by_cases a5 : n < 32
  · have c5 : (nI n < 32) = True:=lT (c:=32) a5 (by decide)
    have q0:=in0 hK.ln a5
    have q1:=in1 hK.ln a5
    have q2:=in2 hK.ln a5
    have en : nI (n + 1) - 1 = nI n:=nI_sub (c:=1) (by omega)
    have l0:=ln0 hK.ln
    have l1:=ln1 hK.ln
    have l2:=ln2 hK.ln
    simp [a1,a2,a3,a4,e0,c5,q0,q1,q2,en,nI_1,m3_0,m3_1,m3_4,m3_5,m3_6,m3_9,m3_11,m3_12,m3_13,m3_16,m3_17,m3_19,m3_22,m3_24,m3_25,m3_26,m3_29,m3_31,m3_34,m3_36,m3_37,m3_38,m3_41,m3_42,m3_45,m3_46,m3_47,m3_48,m3_51,m3_52,m3_55,m3_56,m3_57,m3_58,m3_61,m3_62,m3_65,m3_66,m3_67,m3_68,m3_69,m3_72,m3_73,m3_74,m3_77,m3_78,m3_79,m3_82,m3_83,m3_84,m3_87,m3_88,m3_91,m3_92,m3_93,nb0,nb1,ou_a,Option.toList_some,Option.toList_none,List.nil_append,List.cons_append]
    obtain ⟨_,k2,k3,k4,k5,k6,k7,k8,k9,k10,k11,k12⟩:=hK
    refine hq _ _ ⟨⟨rfl,k2,a5,k4,?_,fun e he => ?_,?_,?_,?_,k10,k11,k12⟩,⟨fun v hv => ?_,hG.2⟩,e2,ic32,h7,Or.inl rfl⟩ rfl
    · (repeat refine LN_ou ?_ (by simp only [setA_len]; exact k5 _)); exact k5
    · have:=k6 e he; omega
    · exact CF_push k7 (by omega) (by omega)
    · exact CF_push k8 (by omega) (by omega)
    · exact CF_push k9 (by omega) (by omega)
    · rw [ou_a]
      split
      · rw [nn_i] at a3
        rw [lt_i,show (15 : Int32).toInt = 15 from rfl] at a4
        omega
      · exact hG.1 v (by omega)
  · have c5 : (nI n < 32) = False:=lF (c:=32) (by omega) (by omega)
    simp [a1,a2,a3,a4,e0,c5,m3_0,m3_1,m3_4,m3_5,m3_6,m3_9,m3_11,m3_12,m3_13,m3_16,m3_17,m3_19,m3_22,m3_24,m3_25,m3_26,m3_29,m3_31,m3_34,m3_36,m3_37,m3_38,m3_41,m3_42,m3_45,m3_46,m3_47,m3_48,m3_51,m3_52,m3_55,m3_56,m3_57,m3_58,m3_61,m3_62,m3_65,m3_66,m3_67,m3_68,m3_69,m3_72,m3_73,m3_74,m3_77,m3_78,m3_79,m3_82,m3_83,m3_84,m3_87,m3_88,m3_91,m3_92,m3_93,nb0,nb1,ou_a,Option.toList_some,Option.toList_none,List.nil_append,List.cons_append]
    exact hr _ (by decide)
theorem aeW {f t r : Int32} (h : EO n m ic vop vdel vk reg inp src dst s A) (hr : ∀ v : Int32,v < 0→Q (some (.int v)) (put (b + 1) pre s A post)) (hq : ∀ s' A' i j,f = nI i→t = nI j→EO n (m + 1) ic vop vdel vk (ou reg m r) inp (ou src m i) (ou dst m j) s' A'→s' 3 = 0→Q (some (.int (nI m))) (put (b + 1) pre s' A' post)) : M2 0 [.val (.ref (b + 1)),.val (.int (f)),.val (.int (t)),.val (.int (r))] [] (put (b + 1) pre s A post) Q:=by
  obtain ⟨hK,hG,e2,ic32,h7,h4⟩:=h
  have e0:=hK.e0
  have e1:=hK.e1
  have n32:=hK.n32
  have m64:=hK.m64
  by_cases a1 : f < 0
  · simp [a1,m2_0,m2_1,m2_4,m2_5,m2_6,m2_9,m2_12,m2_13,m2_16,m2_17,m2_18,m2_21,m2_24,m2_26,m2_27,m2_28,m2_31,m2_32,m2_34,m2_37,m2_39,m2_40,m2_41,m2_44,m2_46,m2_49,m2_51,m2_52,m2_53,m2_56,m2_57,m2_60,m2_61,m2_62,m2_63,m2_66,m2_67,m2_70,m2_71,m2_72,m2_73,m2_76,m2_77,m2_80,m2_81,m2_82,m2_83,m2_84,m2_87,m2_88,m2_89,m2_92,m2_93,m2_94,m2_97,m2_98,m2_99,m2_102,m2_103,m2_106,m2_107,m2_108,nb0,nb1,ou_a,Option.toList_some,Option.toList_none,List.nil_append,List.cons_append]
    exact hr _ (by decide)
  by_cases a2 : f < nI n
  case neg =>
    simp [a1,a2,e0,m2_0,m2_1,m2_4,m2_5,m2_6,m2_9,m2_12,m2_13,m2_16,m2_17,m2_18,m2_21,m2_24,m2_26,m2_27,m2_28,m2_31,m2_32,m2_34,m2_37,m2_39,m2_40,m2_41,m2_44,m2_46,m2_49,m2_51,m2_52,m2_53,m2_56,m2_57,m2_60,m2_61,m2_62,m2_63,m2_66,m2_67,m2_70,m2_71,m2_72,m2_73,m2_76,m2_77,m2_80,m2_81,m2_82,m2_83,m2_84,m2_87,m2_88,m2_89,m2_92,m2_93,m2_94,m2_97,m2_98,m2_99,m2_102,m2_103,m2_106,m2_107,m2_108,nb0,nb1,ou_a,Option.toList_some,Option.toList_none,List.nil_append,List.cons_append]
    exact hr _ (by decide)
  by_cases a3 : t < 0
  · simp [a1,a2,a3,e0,m2_0,m2_1,m2_4,m2_5,m2_6,m2_9,m2_12,m2_13,m2_16,m2_17,m2_18,m2_21,m2_24,m2_26,m2_27,m2_28,m2_31,m2_32,m2_34,m2_37,m2_39,m2_40,m2_41,m2_44,m2_46,m2_49,m2_51,m2_52,m2_53,m2_56,m2_57,m2_60,m2_61,m2_62,m2_63,m2_66,m2_67,m2_70,m2_71,m2_72,m2_73,m2_76,m2_77,m2_80,m2_81,m2_82,m2_83,m2_84,m2_87,m2_88,m2_89,m2_92,m2_93,m2_94,m2_97,m2_98,m2_99,m2_102,m2_103,m2_106,m2_107,m2_108,nb0,nb1,ou_a,Option.toList_some,Option.toList_none,List.nil_append,List.cons_append]
    exact hr _ (by decide)
  by_cases a4 : t < nI n
  case neg =>
    simp [a1,a2,a3,a4,e0,m2_0,m2_1,m2_4,m2_5,m2_6,m2_9,m2_12,m2_13,m2_16,m2_17,m2_18,m2_21,m2_24,m2_26,m2_27,m2_28,m2_31,m2_32,m2_34,m2_37,m2_39,m2_40,m2_41,m2_44,m2_46,m2_49,m2_51,m2_52,m2_53,m2_56,m2_57,m2_60,m2_61,m2_62,m2_63,m2_66,m2_67,m2_70,m2_71,m2_72,m2_73,m2_76,m2_77,m2_80,m2_81,m2_82,m2_83,m2_84,m2_87,m2_88,m2_89,m2_92,m2_93,m2_94,m2_97,m2_98,m2_99,m2_102,m2_103,m2_106,m2_107,m2_108,nb0,nb1,ou_a,Option.toList_some,Option.toList_none,List.nil_append,List.cons_append]
    exact hr _ (by decide)
  by_cases a5 : r < 0
  · simp [a1,a2,a3,a4,a5,e0,m2_0,m2_1,m2_4,m2_5,m2_6,m2_9,m2_12,m2_13,m2_16,m2_17,m2_18,m2_21,m2_24,m2_26,m2_27,m2_28,m2_31,m2_32,m2_34,m2_37,m2_39,m2_40,m2_41,m2_44,m2_46,m2_49,m2_51,m2_52,m2_53,m2_56,m2_57,m2_60,m2_61,m2_62,m2_63,m2_66,m2_67,m2_70,m2_71,m2_72,m2_73,m2_76,m2_77,m2_80,m2_81,m2_82,m2_83,m2_84,m2_87,m2_88,m2_89,m2_92,m2_93,m2_94,m2_97,m2_98,m2_99,m2_102,m2_103,m2_106,m2_107,m2_108,nb0,nb1,ou_a,Option.toList_some,Option.toList_none,List.nil_append,List.cons_append]
    exact hr _ (by decide)
  by_cases a6 : 7 < r
  · simp [a1,a2,a3,a4,a5,a6,e0,m2_0,m2_1,m2_4,m2_5,m2_6,m2_9,m2_12,m2_13,m2_16,m2_17,m2_18,m2_21,m2_24,m2_26,m2_27,m2_28,m2_31,m2_32,m2_34,m2_37,m2_39,m2_40,m2_41,m2_44,m2_46,m2_49,m2_51,m2_52,m2_53,m2_56,m2_57,m2_60,m2_61,m2_62,m2_63,m2_66,m2_67,m2_70,m2_71,m2_72,m2_73,m2_76,m2_77,m2_80,m2_81,m2_82,m2_83,m2_84,m2_87,m2_88,m2_89,m2_92,m2_93,m2_94,m2_97,m2_98,m2_99,m2_102,m2_103,m2_106,m2_107,m2_108,nb0,nb1,ou_a,Option.toList_some,Option.toList_none,List.nil_append,List.cons_append]
    exact hr _ (by decide)
  by_cases a7 : m < 64
  · have c7 : (nI m < 64) = True:=lT (c:=64) a7 (by decide)
    have q3:=in3 hK.ln a7
    have q4:=in4 hK.ln a7
    have q5:=in5 hK.ln a7
    have en : nI (m + 1) - 1 = nI m:=nI_sub (c:=1) (by omega)
    have l3:=ln3 hK.ln
    have l4:=ln4 hK.ln
    have l5:=ln5 hK.ln
    obtain ⟨i,ei,hi⟩:=rgn (by omega) a1 a2
    obtain ⟨j,ej,hj⟩:=rgn (by omega) a3 a4
    simp [a1,a2,a3,a4,a5,a6,e0,e1,c7,q3,q4,q5,en,nI_1,m2_0,m2_1,m2_4,m2_5,m2_6,m2_9,m2_12,m2_13,m2_16,m2_17,m2_18,m2_21,m2_24,m2_26,m2_27,m2_28,m2_31,m2_32,m2_34,m2_37,m2_39,m2_40,m2_41,m2_44,m2_46,m2_49,m2_51,m2_52,m2_53,m2_56,m2_57,m2_60,m2_61,m2_62,m2_63,m2_66,m2_67,m2_70,m2_71,m2_72,m2_73,m2_76,m2_77,m2_80,m2_81,m2_82,m2_83,m2_84,m2_87,m2_88,m2_89,m2_92,m2_93,m2_94,m2_97,m2_98,m2_99,m2_102,m2_103,m2_106,m2_107,m2_108,nb0,nb1,ou_a,Option.toList_some,Option.toList_none,List.nil_append,List.cons_append]
    obtain ⟨k1,_,k3,k4,k5,k6,k7,k8,k9,k10,k11,k12⟩:=hK
    refine hq _ _ i j ei ej ⟨⟨k1,rfl,k3,a7,?_,fun e he => ?_,k7,k8,k9,?_,?_,?_⟩,⟨hG.1,fun e he => ?_⟩,e2,ic32,h7,Or.inl rfl⟩ rfl
    · (repeat refine LN_ou ?_ (by simp only [setA_len]; exact k5 _)); exact k5
    · rw [ou_a,ou_a]
      by_cases z : e = m
      · rw [if_pos z,if_pos z]; exact ⟨hi,hj⟩
      · rw [if_neg z,if_neg z]; exact k6 e (by omega)
    · rw [ei]; exact CN_push k10 (by omega) (by omega)
    · rw [ej]; exact CN_push k11 (by omega) (by omega)
    · exact CF_push k12 (by omega) (by omega)
    · rw [ou_a]
      split
      · rw [nn_i] at a5
        rw [lt_i,show (7 : Int32).toInt = 7 from rfl] at a6
        omega
      · exact hG.2 e (by omega)
  · have c7 : (nI m < 64) = False:=lF (c:=64) (by omega) (by omega)
    simp [a1,a2,a3,a4,a5,a6,e0,e1,c7,m2_0,m2_1,m2_4,m2_5,m2_6,m2_9,m2_12,m2_13,m2_16,m2_17,m2_18,m2_21,m2_24,m2_26,m2_27,m2_28,m2_31,m2_32,m2_34,m2_37,m2_39,m2_40,m2_41,m2_44,m2_46,m2_49,m2_51,m2_52,m2_53,m2_56,m2_57,m2_60,m2_61,m2_62,m2_63,m2_66,m2_67,m2_70,m2_71,m2_72,m2_73,m2_76,m2_77,m2_80,m2_81,m2_82,m2_83,m2_84,m2_87,m2_88,m2_89,m2_92,m2_93,m2_94,m2_97,m2_98,m2_99,m2_102,m2_103,m2_106,m2_107,m2_108,nb0,nb1,ou_a,Option.toList_some,Option.toList_none,List.nil_append,List.cons_append]
    exact hr _ (by decide)
theorem fdW {v : Int32} (h : EO n m ic vop vdel vk reg inp src dst s A) (hq : ic < 32→EO n m (ic + 1) vop vdel vk reg (ou inp ic v) src dst (ou s 2 (nI (ic + 1))) (ou A 7 (setA (A 7) (nI ic) v))→Q (some (.int 1)) (put (b + 1) pre (ou s 2 (nI (ic + 1))) (ou A 7 (setA (A 7) (nI ic) v)) post)) (hf : ¬ ic < 32→Q (some (.int 0)) (put (b + 1) pre s A post)) : M1 0 [.val (.ref (b + 1)),.val (.int (v))] [] (put (b + 1) pre s A post) Q:=by
  obtain ⟨hK,hG,e2,ic32,h7,h4⟩:=h
  by_cases z : ic < 32
  · have c1 : (nI ic < 32) = True:=lT (c:=32) z (by decide)
    have q7:=in7 hK.ln z
    have l7:=ln7 hK.ln
    simp [e2,c1,q7,nI_1,m1_0,m1_1,m1_4,m1_6,m1_9,m1_10,m1_11,m1_12,m1_15,m1_16,m1_19,m1_20,m1_21,m1_22,m1_23,m1_26,m1_27,m1_28,m1_31,m1_32,nb0,nb1,ou_a,Option.toList_some,Option.toList_none,List.nil_append,List.cons_append]
    exact hq z ⟨(hK.ar (LN_set hK.ln) (fun k hk => by rw [ou_a,if_neg (by omega)])).sc rfl rfl,hG,rfl,z,CF_push h7 (by omega) (by omega),h4.imp id (fun q => q.st (fun i hi => by rw [ou_a,if_neg (by omega)]) (fun k hk => by rw [ou_a,if_neg (by omega)]))⟩
  · have c1 : (nI ic < 32) = False:=lF (c:=32) (by omega) (by omega)
    simp [e2,c1,m1_0,m1_1,m1_4,m1_6,m1_9,m1_10,m1_11,m1_12,m1_15,m1_16,m1_19,m1_20,m1_21,m1_22,m1_23,m1_26,m1_27,m1_28,m1_31,m1_32,nb0,nb1,ou_a,Option.toList_some,Option.toList_none,List.nil_append,List.cons_append]
    exact hf z
theorem ciW (h : EO n m ic vop vdel vk reg inp src dst s A) (hq : EO n m 0 vop vdel vk reg inp src dst (ou s 2 0) A→Q none (put (b + 1) pre (ou s 2 0) A post)) : M27 0 [.val (.ref (b + 1))] [] (put (b + 1) pre s A post) Q:=by
  obtain ⟨hK,hG,e2,ic32,h7,h4⟩:=h
  simp [m27_0,m27_1,m27_2,m27_5,nb0,nb1,ou_a,Option.toList_some,Option.toList_none,List.nil_append,List.cons_append]
  exact hq ⟨hK.sc rfl rfl,hG,rfl,by omega,fun i hi => absurd hi (by omega),h4.imp id (fun q => q.st (fun i hi => by rw [ou_a,if_neg (by omega)]) (fun _ _ => rfl))⟩
theorem ouW {c u si : Nat} {f : Nat→Int32} (hc : c≤1) (hu : u≤32) (hl : LN A) (e3 : s 3 = nI si) (si32 : si≤32) (ho : ∀ u,u < si→getA (A 8) (nI (c * 32 + u)) = f u) (hq : Q (some (.int (if u < si then f u else 0))) (put (b + 1) pre s A post)) : M25 0 [.val (.ref (b + 1)),.val (.int (nI c)),.val (.int (nI u))] [] (put (b + 1) pre s A post) Q:=by
  have c0 : (nI c < 0) = False:=eq_false (nI_nn (by omega))
  have c1 : (1 < nI c) = False:=lF (a:=1) hc (by decide)
  have c2 : (nI u < 0) = False:=eq_false (nI_nn (by omega))
  by_cases z : u < si
  · have c3 : (nI u < nI si) = True:=lT z (by omega)
    have c4 : (nI u < 32) = True:=lT (c:=32) (by omega) (by decide)
    have q8:=in8 hl (i:=c * 32 + u) (by omega)
    have v8:=ho u z
    rw [if_pos z] at hq
    simp [c0,c1,c2,c3,c4,e3,q8,v8,nI_32,nI_add,m25_0,m25_1,m25_4,m25_5,m25_6,m25_9,m25_10,m25_13,m25_14,m25_15,m25_18,m25_21,m25_22,m25_24,m25_27,m25_28,m25_29,m25_30,m25_33,m25_34,m25_36,m25_37,m25_38,m25_39,m25_40,nb0,nb1,ou_a,Option.toList_some,Option.toList_none,List.nil_append,List.cons_append]
    exact hq
  · have c3 : (nI u < nI si) = False:=lF (by omega) (by omega)
    rw [if_neg z] at hq
    simp [c0,c1,c2,c3,e3,m25_0,m25_1,m25_4,m25_5,m25_6,m25_9,m25_10,m25_13,m25_14,m25_15,m25_18,m25_21,m25_22,m25_24,m25_27,m25_28,m25_29,m25_30,m25_33,m25_34,m25_36,m25_37,m25_38,m25_39,m25_40,nb0,nb1,ou_a,Option.toList_some,Option.toList_none,List.nil_append,List.cons_append]
    exact hq
end Obj
/-- n, m, inputs, simulated, retimed, vop, vdel, vk, reg, inp, out, src, dst -/
abbrev XS : Type:=Nat × Nat × Nat × Nat × Bool × (Nat→Int32) × (Nat→Int32) × (Nat→Int32) × (Nat→Int32) × (Nat→Int32) × (Nat→Int32) × (Nat→Nat) × (Nat→Nat)
def E7 (X : XS) (s : Nat→Int32) (A : Nat→List Int32) : Prop:=match X with
  | (n,m,ic,si,rt,vop,vdel,vk,reg,inp,out,src,dst) => EO n m ic vop vdel vk reg inp src dst s A∧s 3 = nI si∧si≤32∧(∀ u,u < si→getA (A 8) (nI u) = out u∧getA (A 8) (nI (32 + u)) = out (32 + u))∧(if rt = true then KR n m vdel reg src dst s A else s 4 = 0)
def X0 : XS:=(0,0,0,0,false,fun _ => 0,fun _ => 0,fun _ => 0,fun _ => 0,fun _ => 0,fun _ => 0,fun _ => 0,fun _ => 0)
theorem E70 {s : Nat→Int32} {A : Nat→List Int32} (hl : LN A) (e0 : s 0 = 0) (e1 : s 1 = 0) (e2 : s 2 = 0) (e3 : s 3 = 0) (e4 : s 4 = 0) : E7 X0 s A :=
  ⟨⟨⟨e0,e1,by decide,by decide,hl,fun e he => absurd he (by omega),fun i hi => absurd hi (by omega),fun i hi => absurd hi (by omega),fun i hi => absurd hi (by omega),fun i hi => absurd hi (by omega),fun i hi => absurd hi (by omega),fun i hi => absurd hi (by omega)⟩,⟨fun v hv => absurd hv (by omega),fun e he => absurd he (by omega)⟩,e2,by decide,fun i hi => absurd hi (by omega),Or.inl e4⟩,e3,by decide,fun u hu => absurd hu (by omega),e4⟩
theorem E7.ln {X : XS} {s : Nat→Int32} {A : Nat→List Int32} (h : E7 X s A) : LN A:=by
  obtain ⟨n,m,ic,si,rt,vop,vdel,vk,reg,inp,out,src,dst⟩:=X
  exact h.1.ln
set_option maxRecDepth 1000000 in
set_option maxHeartbeats 20000000 in
theorem avX (X : XS) (op d k : Int32) : ∃ (X' : XS) (v : Int32),∀ {b : Nat} {pre post : AHeap} {Q : Option Value→AHeap→Prop} {s : Nat→Int32} {A : Nat→List Int32},E7 X s A→(∀ s' A',E7 X' s' A'→Q (some (.int v)) (put (b + 1) pre s' A' post))→M3 0 [.val (.ref (b + 1)),.val (.int op),.val (.int d),.val (.int k)] [] (put (b + 1) pre s A post) Q:=by
  obtain ⟨n,m,ic,si,rt,vop,vdel,vk,reg,inp,out,src,dst⟩:=X
  by_cases a1 : op < 0
  · refine ⟨(n,m,ic,si,rt,vop,vdel,vk,reg,inp,out,src,dst),-2,fun {b pre post Q s A} h hq => ?_⟩
    have hq:=hq s A h
    have e0 : s 0 = nI n:=h.1.1.e0
    have e1 : s 1 = nI m:=h.1.1.e1
    simp [a1,e0,e1,m3_0,m3_1,m3_4,m3_5,m3_6,m3_9,m3_11,m3_12,m3_13,m3_16,m3_17,m3_19,m3_22,m3_24,m3_25,m3_26,m3_29,m3_31,m3_34,m3_36,m3_37,m3_38,m3_41,m3_42,m3_45,m3_46,m3_47,m3_48,m3_51,m3_52,m3_55,m3_56,m3_57,m3_58,m3_61,m3_62,m3_65,m3_66,m3_67,m3_68,m3_69,m3_72,m3_73,m3_74,m3_77,m3_78,m3_79,m3_82,m3_83,m3_84,m3_87,m3_88,m3_91,m3_92,m3_93,nb0,nb1,ou_a,Option.toList_some,Option.toList_none,List.nil_append,List.cons_append]
    exact hq
  by_cases a2 : 3 < op
  · refine ⟨(n,m,ic,si,rt,vop,vdel,vk,reg,inp,out,src,dst),-2,fun {b pre post Q s A} h hq => ?_⟩
    have hq:=hq s A h
    have e0 : s 0 = nI n:=h.1.1.e0
    have e1 : s 1 = nI m:=h.1.1.e1
    simp [a1,a2,e0,e1,m3_0,m3_1,m3_4,m3_5,m3_6,m3_9,m3_11,m3_12,m3_13,m3_16,m3_17,m3_19,m3_22,m3_24,m3_25,m3_26,m3_29,m3_31,m3_34,m3_36,m3_37,m3_38,m3_41,m3_42,m3_45,m3_46,m3_47,m3_48,m3_51,m3_52,m3_55,m3_56,m3_57,m3_58,m3_61,m3_62,m3_65,m3_66,m3_67,m3_68,m3_69,m3_72,m3_73,m3_74,m3_77,m3_78,m3_79,m3_82,m3_83,m3_84,m3_87,m3_88,m3_91,m3_92,m3_93,nb0,nb1,ou_a,Option.toList_some,Option.toList_none,List.nil_append,List.cons_append]
    exact hq
  by_cases a3 : d < 0
  · refine ⟨(n,m,ic,si,rt,vop,vdel,vk,reg,inp,out,src,dst),-2,fun {b pre post Q s A} h hq => ?_⟩
    have hq:=hq s A h
    have e0 : s 0 = nI n:=h.1.1.e0
    have e1 : s 1 = nI m:=h.1.1.e1
    simp [a1,a2,a3,e0,e1,m3_0,m3_1,m3_4,m3_5,m3_6,m3_9,m3_11,m3_12,m3_13,m3_16,m3_17,m3_19,m3_22,m3_24,m3_25,m3_26,m3_29,m3_31,m3_34,m3_36,m3_37,m3_38,m3_41,m3_42,m3_45,m3_46,m3_47,m3_48,m3_51,m3_52,m3_55,m3_56,m3_57,m3_58,m3_61,m3_62,m3_65,m3_66,m3_67,m3_68,m3_69,m3_72,m3_73,m3_74,m3_77,m3_78,m3_79,m3_82,m3_83,m3_84,m3_87,m3_88,m3_91,m3_92,m3_93,nb0,nb1,ou_a,Option.toList_some,Option.toList_none,List.nil_append,List.cons_append]
    exact hq
  by_cases a4 : 15 < d
  · refine ⟨(n,m,ic,si,rt,vop,vdel,vk,reg,inp,out,src,dst),-2,fun {b pre post Q s A} h hq => ?_⟩
    have hq:=hq s A h
    have e0 : s 0 = nI n:=h.1.1.e0
    have e1 : s 1 = nI m:=h.1.1.e1
    simp [a1,a2,a3,a4,e0,e1,m3_0,m3_1,m3_4,m3_5,m3_6,m3_9,m3_11,m3_12,m3_13,m3_16,m3_17,m3_19,m3_22,m3_24,m3_25,m3_26,m3_29,m3_31,m3_34,m3_36,m3_37,m3_38,m3_41,m3_42,m3_45,m3_46,m3_47,m3_48,m3_51,m3_52,m3_55,m3_56,m3_57,m3_58,m3_61,m3_62,m3_65,m3_66,m3_67,m3_68,m3_69,m3_72,m3_73,m3_74,m3_77,m3_78,m3_79,m3_82,m3_83,m3_84,m3_87,m3_88,m3_91,m3_92,m3_93,nb0,nb1,ou_a,Option.toList_some,Option.toList_none,List.nil_append,List.cons_append]
    exact hq
  by_cases a5 : n < 32
  · refine ⟨(n + 1,m,ic,0,false,ou vop n op,ou vdel n d,ou vk n k,reg,inp,out,src,dst),nI n,fun {b pre post Q s A} h hq => ?_⟩
    obtain ⟨⟨hK,hG,e2,ic32,h7,h4⟩,e3,si32,ho,hrt⟩:=h
    have e0:=hK.e0
    have c5 : (nI n < 32) = True:=lT (c:=32) a5 (by decide)
    have q0:=in0 hK.ln a5
    have q1:=in1 hK.ln a5
    have q2:=in2 hK.ln a5
    have en : nI (n + 1) - 1 = nI n:=nI_sub (c:=1) (by omega)
    have l0:=ln0 hK.ln
    have l1:=ln1 hK.ln
    have l2:=ln2 hK.ln
    simp [a1,a2,a3,a4,e0,c5,q0,q1,q2,en,nI_1,m3_0,m3_1,m3_4,m3_5,m3_6,m3_9,m3_11,m3_12,m3_13,m3_16,m3_17,m3_19,m3_22,m3_24,m3_25,m3_26,m3_29,m3_31,m3_34,m3_36,m3_37,m3_38,m3_41,m3_42,m3_45,m3_46,m3_47,m3_48,m3_51,m3_52,m3_55,m3_56,m3_57,m3_58,m3_61,m3_62,m3_65,m3_66,m3_67,m3_68,m3_69,m3_72,m3_73,m3_74,m3_77,m3_78,m3_79,m3_82,m3_83,m3_84,m3_87,m3_88,m3_91,m3_92,m3_93,nb0,nb1,ou_a,Option.toList_some,Option.toList_none,List.nil_append,List.cons_append]
    obtain ⟨_,k2,k3,k4,k5,k6,k7,k8,k9,k10,k11,k12⟩:=hK
    refine hq _ _ ⟨⟨⟨rfl,k2,a5,k4,?_,fun e he => ?_,?_,?_,?_,k10,k11,k12⟩,⟨fun v hv => ?_,hG.2⟩,e2,ic32,h7,Or.inl rfl⟩,rfl,Nat.zero_le _,fun u hu => absurd hu (by omega),rfl⟩
    · (repeat refine LN_ou ?_ (by simp only [setA_len]; exact k5 _)); exact k5
    · have:=k6 e he; omega
    · exact CF_push k7 (by omega) (by omega)
    · exact CF_push k8 (by omega) (by omega)
    · exact CF_push k9 (by omega) (by omega)
    · rw [ou_a]
      split
      · rw [nn_i] at a3
        rw [lt_i,show (15 : Int32).toInt = 15 from rfl] at a4
        omega
      · exact hG.1 v (by omega)
  · refine ⟨(n,m,ic,si,rt,vop,vdel,vk,reg,inp,out,src,dst),-3,fun {b pre post Q s A} h hq => ?_⟩
    have n32 : n≤32:=h.1.1.n32
    have c5 : (nI n < 32) = False:=lF (c:=32) (by omega) (by omega)
    have hq:=hq s A h
    have e0 : s 0 = nI n:=h.1.1.e0
    simp [a1,a2,a3,a4,c5,e0,m3_0,m3_1,m3_4,m3_5,m3_6,m3_9,m3_11,m3_12,m3_13,m3_16,m3_17,m3_19,m3_22,m3_24,m3_25,m3_26,m3_29,m3_31,m3_34,m3_36,m3_37,m3_38,m3_41,m3_42,m3_45,m3_46,m3_47,m3_48,m3_51,m3_52,m3_55,m3_56,m3_57,m3_58,m3_61,m3_62,m3_65,m3_66,m3_67,m3_68,m3_69,m3_72,m3_73,m3_74,m3_77,m3_78,m3_79,m3_82,m3_83,m3_84,m3_87,m3_88,m3_91,m3_92,m3_93,nb0,nb1,ou_a,Option.toList_some,Option.toList_none,List.nil_append,List.cons_append]
    exact hq
set_option maxRecDepth 1000000 in
set_option maxHeartbeats 20000000 in
theorem aeX (X : XS) (f t r : Int32) : ∃ (X' : XS) (v : Int32),∀ {b : Nat} {pre post : AHeap} {Q : Option Value→AHeap→Prop} {s : Nat→Int32} {A : Nat→List Int32},E7 X s A→(∀ s' A',E7 X' s' A'→Q (some (.int v)) (put (b + 1) pre s' A' post))→M2 0 [.val (.ref (b + 1)),.val (.int f),.val (.int t),.val (.int r)] [] (put (b + 1) pre s A post) Q:=by
  obtain ⟨n,m,ic,si,rt,vop,vdel,vk,reg,inp,out,src,dst⟩:=X
  by_cases a1 : f < 0
  · refine ⟨(n,m,ic,si,rt,vop,vdel,vk,reg,inp,out,src,dst),-2,fun {b pre post Q s A} h hq => ?_⟩
    have hq:=hq s A h
    have e0 : s 0 = nI n:=h.1.1.e0
    have e1 : s 1 = nI m:=h.1.1.e1
    simp [a1,e0,e1,m2_0,m2_1,m2_4,m2_5,m2_6,m2_9,m2_12,m2_13,m2_16,m2_17,m2_18,m2_21,m2_24,m2_26,m2_27,m2_28,m2_31,m2_32,m2_34,m2_37,m2_39,m2_40,m2_41,m2_44,m2_46,m2_49,m2_51,m2_52,m2_53,m2_56,m2_57,m2_60,m2_61,m2_62,m2_63,m2_66,m2_67,m2_70,m2_71,m2_72,m2_73,m2_76,m2_77,m2_80,m2_81,m2_82,m2_83,m2_84,m2_87,m2_88,m2_89,m2_92,m2_93,m2_94,m2_97,m2_98,m2_99,m2_102,m2_103,m2_106,m2_107,m2_108,nb0,nb1,ou_a,Option.toList_some,Option.toList_none,List.nil_append,List.cons_append]
    exact hq
  by_cases a2 : f < nI n
  case neg =>
    refine ⟨(n,m,ic,si,rt,vop,vdel,vk,reg,inp,out,src,dst),-2,fun {b pre post Q s A} h hq => ?_⟩
    have hq:=hq s A h
    have e0 : s 0 = nI n:=h.1.1.e0
    have e1 : s 1 = nI m:=h.1.1.e1
    simp [a1,a2,e0,e1,m2_0,m2_1,m2_4,m2_5,m2_6,m2_9,m2_12,m2_13,m2_16,m2_17,m2_18,m2_21,m2_24,m2_26,m2_27,m2_28,m2_31,m2_32,m2_34,m2_37,m2_39,m2_40,m2_41,m2_44,m2_46,m2_49,m2_51,m2_52,m2_53,m2_56,m2_57,m2_60,m2_61,m2_62,m2_63,m2_66,m2_67,m2_70,m2_71,m2_72,m2_73,m2_76,m2_77,m2_80,m2_81,m2_82,m2_83,m2_84,m2_87,m2_88,m2_89,m2_92,m2_93,m2_94,m2_97,m2_98,m2_99,m2_102,m2_103,m2_106,m2_107,m2_108,nb0,nb1,ou_a,Option.toList_some,Option.toList_none,List.nil_append,List.cons_append]
    exact hq
  by_cases a3 : t < 0
  · refine ⟨(n,m,ic,si,rt,vop,vdel,vk,reg,inp,out,src,dst),-2,fun {b pre post Q s A} h hq => ?_⟩
    have hq:=hq s A h
    have e0 : s 0 = nI n:=h.1.1.e0
    have e1 : s 1 = nI m:=h.1.1.e1
    simp [a1,a2,a3,e0,e1,m2_0,m2_1,m2_4,m2_5,m2_6,m2_9,m2_12,m2_13,m2_16,m2_17,m2_18,m2_21,m2_24,m2_26,m2_27,m2_28,m2_31,m2_32,m2_34,m2_37,m2_39,m2_40,m2_41,m2_44,m2_46,m2_49,m2_51,m2_52,m2_53,m2_56,m2_57,m2_60,m2_61,m2_62,m2_63,m2_66,m2_67,m2_70,m2_71,m2_72,m2_73,m2_76,m2_77,m2_80,m2_81,m2_82,m2_83,m2_84,m2_87,m2_88,m2_89,m2_92,m2_93,m2_94,m2_97,m2_98,m2_99,m2_102,m2_103,m2_106,m2_107,m2_108,nb0,nb1,ou_a,Option.toList_some,Option.toList_none,List.nil_append,List.cons_append]
    exact hq
  by_cases a4 : t < nI n
  case neg =>
    refine ⟨(n,m,ic,si,rt,vop,vdel,vk,reg,inp,out,src,dst),-2,fun {b pre post Q s A} h hq => ?_⟩
    have hq:=hq s A h
    have e0 : s 0 = nI n:=h.1.1.e0
    have e1 : s 1 = nI m:=h.1.1.e1
    simp [a1,a2,a3,a4,e0,e1,m2_0,m2_1,m2_4,m2_5,m2_6,m2_9,m2_12,m2_13,m2_16,m2_17,m2_18,m2_21,m2_24,m2_26,m2_27,m2_28,m2_31,m2_32,m2_34,m2_37,m2_39,m2_40,m2_41,m2_44,m2_46,m2_49,m2_51,m2_52,m2_53,m2_56,m2_57,m2_60,m2_61,m2_62,m2_63,m2_66,m2_67,m2_70,m2_71,m2_72,m2_73,m2_76,m2_77,m2_80,m2_81,m2_82,m2_83,m2_84,m2_87,m2_88,m2_89,m2_92,m2_93,m2_94,m2_97,m2_98,m2_99,m2_102,m2_103,m2_106,m2_107,m2_108,nb0,nb1,ou_a,Option.toList_some,Option.toList_none,List.nil_append,List.cons_append]
    exact hq
  by_cases a5 : r < 0
  · refine ⟨(n,m,ic,si,rt,vop,vdel,vk,reg,inp,out,src,dst),-2,fun {b pre post Q s A} h hq => ?_⟩
    have hq:=hq s A h
    have e0 : s 0 = nI n:=h.1.1.e0
    have e1 : s 1 = nI m:=h.1.1.e1
    simp [a1,a2,a3,a4,a5,e0,e1,m2_0,m2_1,m2_4,m2_5,m2_6,m2_9,m2_12,m2_13,m2_16,m2_17,m2_18,m2_21,m2_24,m2_26,m2_27,m2_28,m2_31,m2_32,m2_34,m2_37,m2_39,m2_40,m2_41,m2_44,m2_46,m2_49,m2_51,m2_52,m2_53,m2_56,m2_57,m2_60,m2_61,m2_62,m2_63,m2_66,m2_67,m2_70,m2_71,m2_72,m2_73,m2_76,m2_77,m2_80,m2_81,m2_82,m2_83,m2_84,m2_87,m2_88,m2_89,m2_92,m2_93,m2_94,m2_97,m2_98,m2_99,m2_102,m2_103,m2_106,m2_107,m2_108,nb0,nb1,ou_a,Option.toList_some,Option.toList_none,List.nil_append,List.cons_append]
    exact hq
  by_cases a6 : 7 < r
  · refine ⟨(n,m,ic,si,rt,vop,vdel,vk,reg,inp,out,src,dst),-2,fun {b pre post Q s A} h hq => ?_⟩
    have hq:=hq s A h
    have e0 : s 0 = nI n:=h.1.1.e0
    have e1 : s 1 = nI m:=h.1.1.e1
    simp [a1,a2,a3,a4,a5,a6,e0,e1,m2_0,m2_1,m2_4,m2_5,m2_6,m2_9,m2_12,m2_13,m2_16,m2_17,m2_18,m2_21,m2_24,m2_26,m2_27,m2_28,m2_31,m2_32,m2_34,m2_37,m2_39,m2_40,m2_41,m2_44,m2_46,m2_49,m2_51,m2_52,m2_53,m2_56,m2_57,m2_60,m2_61,m2_62,m2_63,m2_66,m2_67,m2_70,m2_71,m2_72,m2_73,m2_76,m2_77,m2_80,m2_81,m2_82,m2_83,m2_84,m2_87,m2_88,m2_89,m2_92,m2_93,m2_94,m2_97,m2_98,m2_99,m2_102,m2_103,m2_106,m2_107,m2_108,nb0,nb1,ou_a,Option.toList_some,Option.toList_none,List.nil_append,List.cons_append]
    exact hq
  by_cases a7 : m < 64
  · by_cases n32 : n≤32
    · obtain ⟨i,ei,hi⟩:=rgn (by omega) a1 a2
      obtain ⟨j,ej,hj⟩:=rgn (by omega) a3 a4
      refine ⟨(n,m + 1,ic,0,false,vop,vdel,vk,ou reg m r,inp,out,ou src m i,ou dst m j),nI m,fun {b pre post Q s A} h hq => ?_⟩
      obtain ⟨⟨hK,hG,e2,ic32,h7,h4⟩,e3,si32,ho,hrt⟩:=h
      have e0:=hK.e0
      have e1:=hK.e1
      have c7 : (nI m < 64) = True:=lT (c:=64) a7 (by decide)
      have q3:=in3 hK.ln a7
      have q4:=in4 hK.ln a7
      have q5:=in5 hK.ln a7
      have en : nI (m + 1) - 1 = nI m:=nI_sub (c:=1) (by omega)
      have l3:=ln3 hK.ln
      have l4:=ln4 hK.ln
      have l5:=ln5 hK.ln
      simp [a1,a2,a3,a4,a5,a6,e0,e1,c7,q3,q4,q5,en,nI_1,m2_0,m2_1,m2_4,m2_5,m2_6,m2_9,m2_12,m2_13,m2_16,m2_17,m2_18,m2_21,m2_24,m2_26,m2_27,m2_28,m2_31,m2_32,m2_34,m2_37,m2_39,m2_40,m2_41,m2_44,m2_46,m2_49,m2_51,m2_52,m2_53,m2_56,m2_57,m2_60,m2_61,m2_62,m2_63,m2_66,m2_67,m2_70,m2_71,m2_72,m2_73,m2_76,m2_77,m2_80,m2_81,m2_82,m2_83,m2_84,m2_87,m2_88,m2_89,m2_92,m2_93,m2_94,m2_97,m2_98,m2_99,m2_102,m2_103,m2_106,m2_107,m2_108,nb0,nb1,ou_a,Option.toList_some,Option.toList_none,List.nil_append,List.cons_append]
      obtain ⟨k1,_,k3,k4,k5,k6,k7,k8,k9,k10,k11,k12⟩:=hK
      refine hq _ _ ⟨⟨⟨k1,rfl,k3,a7,?_,fun e he => ?_,k7,k8,k9,?_,?_,?_⟩,⟨hG.1,fun e he => ?_⟩,e2,ic32,h7,Or.inl rfl⟩,rfl,Nat.zero_le _,fun u hu => absurd hu (by omega),rfl⟩
      · (repeat refine LN_ou ?_ (by simp only [setA_len]; exact k5 _)); exact k5
      · rw [ou_a,ou_a]
        by_cases z : e = m
        · rw [if_pos z,if_pos z]; exact ⟨hi,hj⟩
        · rw [if_neg z,if_neg z]; exact k6 e (by omega)
      · rw [ei]; exact CN_push k10 (by omega) (by omega)
      · rw [ej]; exact CN_push k11 (by omega) (by omega)
      · exact CF_push k12 (by omega) (by omega)
      · rw [ou_a]
        split
        · rw [nn_i] at a5
          rw [lt_i,show (7 : Int32).toInt = 7 from rfl] at a6
          omega
        · exact hG.2 e (by omega)
    · refine ⟨(n,m,ic,si,rt,vop,vdel,vk,reg,inp,out,src,dst),-3,fun {b pre post Q s A} h hq => ?_⟩
      exact absurd h.1.1.n32 n32
  · refine ⟨(n,m,ic,si,rt,vop,vdel,vk,reg,inp,out,src,dst),-3,fun {b pre post Q s A} h hq => ?_⟩
    have m64 : m≤64:=h.1.1.m64
    have c7 : (nI m < 64) = False:=lF (c:=64) (by omega) (by omega)
    have hq:=hq s A h
    have e0 : s 0 = nI n:=h.1.1.e0
    have e1 : s 1 = nI m:=h.1.1.e1
    simp [a1,a2,a3,a4,a5,a6,c7,e0,e1,m2_0,m2_1,m2_4,m2_5,m2_6,m2_9,m2_12,m2_13,m2_16,m2_17,m2_18,m2_21,m2_24,m2_26,m2_27,m2_28,m2_31,m2_32,m2_34,m2_37,m2_39,m2_40,m2_41,m2_44,m2_46,m2_49,m2_51,m2_52,m2_53,m2_56,m2_57,m2_60,m2_61,m2_62,m2_63,m2_66,m2_67,m2_70,m2_71,m2_72,m2_73,m2_76,m2_77,m2_80,m2_81,m2_82,m2_83,m2_84,m2_87,m2_88,m2_89,m2_92,m2_93,m2_94,m2_97,m2_98,m2_99,m2_102,m2_103,m2_106,m2_107,m2_108,nb0,nb1,ou_a,Option.toList_some,Option.toList_none,List.nil_append,List.cons_append]
    exact hq
set_option maxRecDepth 1000000 in
set_option maxHeartbeats 20000000 in
theorem rtX (X : XS) : ∃ (X' : XS) (v : Int32),∀ {b : Nat} {pre post : AHeap} {Q : Option Value→AHeap→Prop} {s : Nat→Int32} {A : Nat→List Int32},E7 X s A→(∀ s' A',E7 X' s' A'→Q (some (.int v)) (put (b + 1) pre s' A' post))→M4 0 [.val (.ref (b + 1))] [] (put (b + 1) pre s A post) Q:=by
  obtain ⟨n,m,ic,si,rt,vop,vdel,vk,reg,inp,out,src,dst⟩:=X
  cases rt with
  | true =>
    refine ⟨(n,m,ic,si,true,vop,vdel,vk,reg,inp,out,src,dst),cM n m vdel reg src dst,fun {b pre post Q s A} h hq => ?_⟩
    have hR : KR n m vdel reg src dst s A:=h.2.2.2.2
    have hE:=h.1
    refine rtW hE.1 hE.2.1 (Or.inr hR) (fun _ => hq s A h) (fun _ q => ?_) (fun _ _ q => ?_) (fun s1 A1 hR1 l1 f1 e1 => hq s1 A1 ⟨hE.ret hR1 l1 f1 e1,(e1 3 (by decide)).trans h.2.1,h.2.2.1,by rw [f1 8 (by omega)]; exact h.2.2.2.1,hR1⟩)
    · rw [hR.2.2.1] at q; exact absurd q (by decide)
    · rw [hR.2.2.1] at q; exact absurd q (by decide)
  | false =>
    have nR : ∀ {s : Nat→Int32} {A : Nat→List Int32},s 4 = 0→¬ KR n m vdel reg src dst s A:=fun h4 q => by
      have:=q.2.2.1
      rw [h4] at this
      exact absurd this (by decide)
    by_cases z : n = 0
    · refine ⟨(n,m,ic,si,false,vop,vdel,vk,reg,inp,out,src,dst),-4,fun {b pre post Q s A} h hq => ?_⟩
      have s4 : s 4 = 0:=h.2.2.2.2
      exact rtW h.1.1 h.1.2.1 (Or.inl s4) (fun q => absurd q (nR s4)) (fun _ _ => hq s A h) (fun _ q => absurd z q) (fun s1 A1 hR1 => absurd hR1.1 (by omega))
    by_cases y : (cO n m reg src dst).2 = n
    · refine ⟨(n,m,ic,si,true,vop,vdel,vk,reg,inp,out,src,dst),cM n m vdel reg src dst,fun {b pre post Q s A} h hq => ?_⟩
      have s4 : s 4 = 0:=h.2.2.2.2
      have hE:=h.1
      exact rtW hE.1 hE.2.1 (Or.inl s4) (fun q => absurd q (nR s4)) (fun q => absurd q z) (fun _ _ _ q => absurd y q) (fun s1 A1 hR1 l1 f1 e1 => hq s1 A1 ⟨hE.ret hR1 l1 f1 e1,(e1 3 (by decide)).trans h.2.1,h.2.2.1,by rw [f1 8 (by omega)]; exact h.2.2.2.1,hR1⟩)
    · refine ⟨(n,m,ic,si,false,vop,vdel,vk,reg,inp,out,src,dst),-5,fun {b pre post Q s A} h hq => ?_⟩
      have s4 : s 4 = 0:=h.2.2.2.2
      have hE:=h.1
      exact rtW hE.1 hE.2.1 (Or.inl s4) (fun q => absurd q (nR s4)) (fun q => absurd q z) (fun A1 _ _ _ l1 f1 => hq s A1 ⟨hE.top s4 l1 f1,h.2.1,h.2.2.1,by rw [f1 8 (by decide) (by decide)]; exact h.2.2.2.1,s4⟩) (fun s1 A1 hR1 => absurd hR1.2.1 y)
set_option maxRecDepth 1000000 in
set_option maxHeartbeats 20000000 in
theorem fdX (X : XS) (v0 : Int32) : ∃ (X' : XS) (v : Int32),∀ {b : Nat} {pre post : AHeap} {Q : Option Value→AHeap→Prop} {s : Nat→Int32} {A : Nat→List Int32},E7 X s A→(∀ s' A',E7 X' s' A'→Q (some (.int v)) (put (b + 1) pre s' A' post))→M1 0 [.val (.ref (b + 1)),.val (.int v0)] [] (put (b + 1) pre s A post) Q:=by
  obtain ⟨n,m,ic,si,rt,vop,vdel,vk,reg,inp,out,src,dst⟩:=X
  by_cases z : ic < 32
  · refine ⟨(n,m,ic + 1,si,rt,vop,vdel,vk,reg,ou inp ic v0,out,src,dst),1,fun {b pre post Q s A} h hq => ?_⟩
    refine fdW h.1 (fun _ h' => hq _ _ ⟨h',h.2.1,h.2.2.1,h.2.2.2.1,?_⟩) (fun q => absurd z q)
    have hr:=h.2.2.2.2
    cases rt with
    | true => exact KR.st (s:=s) (A:=A) hr (fun i hi => by rw [ou_a,if_neg (by omega)]) (fun k hk => by rw [ou_a,if_neg (by omega)])
    | false => exact hr
  · refine ⟨(n,m,ic,si,rt,vop,vdel,vk,reg,inp,out,src,dst),0,fun {b pre post Q s A} h hq => ?_⟩
    exact fdW h.1 (fun q => absurd q z) (fun _ => hq s A h)
set_option maxRecDepth 1000000 in
set_option maxHeartbeats 20000000 in
theorem ciX (X : XS) : ∃ (X' : XS),∀ {b : Nat} {pre post : AHeap} {Q : Option Value→AHeap→Prop} {s : Nat→Int32} {A : Nat→List Int32},E7 X s A→(∀ s' A',E7 X' s' A'→Q none (put (b + 1) pre s' A' post))→M27 0 [.val (.ref (b + 1))] [] (put (b + 1) pre s A post) Q:=by
  obtain ⟨n,m,ic,si,rt,vop,vdel,vk,reg,inp,out,src,dst⟩:=X
  refine ⟨(n,m,0,si,rt,vop,vdel,vk,reg,inp,out,src,dst),fun {b pre post Q s A} h hq => ?_⟩
  refine ciW h.1 (fun h' => hq _ _ ⟨h',h.2.1,h.2.2.1,h.2.2.2.1,?_⟩)
  have hr:=h.2.2.2.2
  cases rt with
  | true => exact KR.st (s:=s) (A:=A) hr (fun i hi => by rw [ou_a,if_neg (by omega)]) (fun _ _ => rfl)
  | false => exact hr
set_option maxRecDepth 1000000 in
set_option maxHeartbeats 20000000 in
theorem smX (X : XS) : ∃ (X' : XS) (v : Int32),∀ {b : Nat} {pre post : AHeap} {Q : Option Value→AHeap→Prop} {s : Nat→Int32} {A : Nat→List Int32},E7 X s A→(∀ s' A',E7 X' s' A'→Q (some (.int v)) (put (b + 1) pre s' A' post))→M26 0 [.val (.ref (b + 1)),.unset] [] (put (b + 1) pre s A post) Q:=by
  obtain ⟨n,m,ic,si,rt,vop,vdel,vk,reg,inp,out,src,dst⟩:=X
  cases rt with
  | true =>
    refine ⟨(n,m,ic,ic,true,vop,vdel,vk,reg,inp,(cS1 n m ic vop vk inp vdel reg src dst).2,src,dst),nI ic,fun {b pre post Q s A} h hq => ?_⟩
    have hR : KR n m vdel reg src dst s A:=h.2.2.2.2
    have hE:=h.1
    exact simW hE.1 hE.2.1 hR hE.2.2.1 hE.2.2.2.1 hE.2.2.2.2.1 (fun A1 l1 f1 g1 => hq _ A1 ⟨hE.sim l1 f1,rfl,hE.2.2.2.1,g1,hR.st (fun i hi => by rw [ou_a,if_neg (by omega)]) (fun k hk => f1 k (by omega) (by omega) (by omega) (by omega))⟩)
  | false =>
    refine ⟨(n,m,ic,si,false,vop,vdel,vk,reg,inp,out,src,dst),-6,fun {b pre post Q s A} h hq => ?_⟩
    have s4 : s 4 = 0:=h.2.2.2.2
    have hq:=hq s A h
    simp [s4,m26_0,m26_1,m26_4,m26_7,m26_9,m26_10,m26_11,m26_14u,m26_15,m26_16,m26_17,m26_18,m26_21,m26_22,m26_23,m26_24,m26_27,m26_28,m26_29,m26_32,m26_33,nb0,nb1,ou_a,Option.toList_some,Option.toList_none,List.nil_append,List.cons_append]
    exact hq
set_option maxRecDepth 1000000 in
set_option maxHeartbeats 20000000 in
theorem rsX (X : XS) : ∀ {b : Nat} {pre post : AHeap} {Q : Option Value→AHeap→Prop} {s : Nat→Int32} {A : Nat→List Int32},E7 X s A→(∀ s' A',E7 X0 s' A'→Q none (put (b + 1) pre s' A' post))→M15 0 [.val (.ref (b + 1))] [] (put (b + 1) pre s A post) Q:=by
  obtain ⟨n,m,ic,si,rt,vop,vdel,vk,reg,inp,out,src,dst⟩:=X
  intro b pre post Q s A h hq
  have hl : LN A:=h.1.ln
  simp [m15_0,m15_1,m15_2,m15_5,m15_6,m15_7,m15_10,m15_11,m15_12,m15_15,m15_16,m15_17,m15_20,m15_21,m15_22,m15_25,nb0,nb1,ou_a,Option.toList_some,Option.toList_none,List.nil_append,List.cons_append]
  exact hq _ _ (E70 hl rfl rfl rfl rfl rfl)
set_option maxRecDepth 1000000 in
set_option maxHeartbeats 20000000 in
theorem ecX (X : XS) : ∃ v : Int32,∀ {b : Nat} {pre post : AHeap} {Q : Option Value→AHeap→Prop} {s : Nat→Int32} {A : Nat→List Int32},E7 X s A→Q (some (.int v)) (put (b + 1) pre s A post)→M16 0 [.val (.ref (b + 1))] [] (put (b + 1) pre s A post) Q:=by
  obtain ⟨n,m,ic,si,rt,vop,vdel,vk,reg,inp,out,src,dst⟩:=X
  refine ⟨nI m,fun {b pre post Q s A} h hq => ?_⟩
  have e1 : s 1 = nI m:=h.1.1.e1
  simp [e1,m16_0,m16_1,m16_4,nb0,nb1,ou_a,Option.toList_some,Option.toList_none,List.nil_append,List.cons_append]
  exact hq
set_option maxRecDepth 1000000 in
set_option maxHeartbeats 20000000 in
theorem mpX (X : XS) : ∃ v : Int32,∀ {b : Nat} {pre post : AHeap} {Q : Option Value→AHeap→Prop} {s : Nat→Int32} {A : Nat→List Int32},E7 X s A→Q (some (.int v)) (put (b + 1) pre s A post)→M17 0 [.val (.ref (b + 1))] [] (put (b + 1) pre s A post) Q:=by
  obtain ⟨n,m,ic,si,rt,vop,vdel,vk,reg,inp,out,src,dst⟩:=X
  cases rt with
  | true =>
    refine ⟨cM n m vdel reg src dst,fun {b pre post Q s A} h hq => ?_⟩
    have hR : KR n m vdel reg src dst s A:=h.2.2.2.2
    have s4:=hR.2.2.1
    have s5:=hR.2.2.2.1
    generalize cM n m vdel reg src dst = V at *
    simp [s4,s5,m17_0,m17_1,m17_4,m17_7,m17_9,m17_10,m17_11,m17_14,nb0,nb1,ou_a,Option.toList_some,Option.toList_none,List.nil_append,List.cons_append]
    exact hq
  | false =>
    refine ⟨-6,fun {b pre post Q s A} h hq => ?_⟩
    have s4 : s 4 = 0:=h.2.2.2.2
    simp [s4,m17_0,m17_1,m17_4,m17_7,m17_9,m17_10,m17_11,m17_14,nb0,nb1,ou_a,Option.toList_some,Option.toList_none,List.nil_append,List.cons_append]
    exact hq
set_option maxRecDepth 1000000 in
set_option maxHeartbeats 20000000 in
theorem opX (X : XS) : ∃ v : Int32,∀ {b : Nat} {pre post : AHeap} {Q : Option Value→AHeap→Prop} {s : Nat→Int32} {A : Nat→List Int32},E7 X s A→Q (some (.int v)) (put (b + 1) pre s A post)→M18 0 [.val (.ref (b + 1))] [] (put (b + 1) pre s A post) Q:=by
  obtain ⟨n,m,ic,si,rt,vop,vdel,vk,reg,inp,out,src,dst⟩:=X
  cases rt with
  | true =>
    refine ⟨(cP n m vdel reg src dst).2,fun {b pre post Q s A} h hq => ?_⟩
    have hR : KR n m vdel reg src dst s A:=h.2.2.2.2
    have s4:=hR.2.2.1
    have s5:=hR.2.2.2.2.1
    generalize (cP n m vdel reg src dst).2 = V at *
    simp [s4,s5,m18_0,m18_1,m18_4,m18_7,m18_9,m18_10,m18_11,m18_14,nb0,nb1,ou_a,Option.toList_some,Option.toList_none,List.nil_append,List.cons_append]
    exact hq
  | false =>
    refine ⟨-6,fun {b pre post Q s A} h hq => ?_⟩
    have s4 : s 4 = 0:=h.2.2.2.2
    simp [s4,m18_0,m18_1,m18_4,m18_7,m18_9,m18_10,m18_11,m18_14,nb0,nb1,ou_a,Option.toList_some,Option.toList_none,List.nil_append,List.cons_append]
    exact hq
set_option maxRecDepth 1000000 in
set_option maxHeartbeats 20000000 in
theorem rpX (X : XS) : ∃ v : Int32,∀ {b : Nat} {pre post : AHeap} {Q : Option Value→AHeap→Prop} {s : Nat→Int32} {A : Nat→List Int32},E7 X s A→Q (some (.int v)) (put (b + 1) pre s A post)→M19 0 [.val (.ref (b + 1))] [] (put (b + 1) pre s A post) Q:=by
  obtain ⟨n,m,ic,si,rt,vop,vdel,vk,reg,inp,out,src,dst⟩:=X
  cases rt with
  | true =>
    refine ⟨cP1 n m vdel reg src dst,fun {b pre post Q s A} h hq => ?_⟩
    have hR : KR n m vdel reg src dst s A:=h.2.2.2.2
    have s4:=hR.2.2.1
    have s5:=hR.2.2.2.2.2.1
    generalize cP1 n m vdel reg src dst = V at *
    simp [s4,s5,m19_0,m19_1,m19_4,m19_7,m19_9,m19_10,m19_11,m19_14,nb0,nb1,ou_a,Option.toList_some,Option.toList_none,List.nil_append,List.cons_append]
    exact hq
  | false =>
    refine ⟨-6,fun {b pre post Q s A} h hq => ?_⟩
    have s4 : s 4 = 0:=h.2.2.2.2
    simp [s4,m19_0,m19_1,m19_4,m19_7,m19_9,m19_10,m19_11,m19_14,nb0,nb1,ou_a,Option.toList_some,Option.toList_none,List.nil_append,List.cons_append]
    exact hq
set_option maxRecDepth 1000000 in
set_option maxHeartbeats 20000000 in
theorem lgX (X : XS) {i : Nat} (hi : i < 100) : ∃ v : Int32,∀ {b : Nat} {pre post : AHeap} {Q : Option Value→AHeap→Prop} {s : Nat→Int32} {A : Nat→List Int32},E7 X s A→Q (some (.int v)) (put (b + 1) pre s A post)→M20 0 [.val (.ref (b + 1)),.val (.int (nI i))] [] (put (b + 1) pre s A post) Q:=by
  obtain ⟨n,m,ic,si,rt,vop,vdel,vk,reg,inp,out,src,dst⟩:=X
  cases rt with
  | false =>
    refine ⟨-2147483648,fun {b pre post Q s A} h hq => ?_⟩
    have s4 : s 4 = 0:=h.2.2.2.2
    simp [s4,m20_0,m20_1,m20_4,m20_7,m20_8,m20_11,m20_12,m20_13,m20_16,m20_19,m20_21,m20_22,m20_23,m20_26,m20_27,m20_28,nb0,nb1,ou_a,Option.toList_some,Option.toList_none,List.nil_append,List.cons_append]
    exact hq
  | true =>
    have c0 : (nI i < 0) = False:=eq_false (nI_nn (by omega))
    by_cases z : i < n
    · refine ⟨lagF (cD n m vdel reg src dst) i,fun {b pre post Q s A} h hq => ?_⟩
      have hR : KR n m vdel reg src dst s A:=h.2.2.2.2
      have s4:=hR.2.2.1
      have e0 : s 0 = nI n:=h.1.1.e0
      have e1 : s 1 = nI m:=h.1.1.e1
      have n32:=h.1.1.n32
      have m64:=h.1.1.m64
      have c1 : (nI i < nI n) = True:=lT z (by omega)
      have q:=in13 h.1.ln (i:=i) (by omega)
      have v:=hR.2.2.2.2.2.2.2.1 i z
      generalize lagF (cD n m vdel reg src dst) i = V at *
      simp [s4,c0,c1,e0,e1,q,v,m20_0,m20_1,m20_4,m20_7,m20_8,m20_11,m20_12,m20_13,m20_16,m20_19,m20_21,m20_22,m20_23,m20_26,m20_27,m20_28,nb0,nb1,ou_a,Option.toList_some,Option.toList_none,List.nil_append,List.cons_append]
      exact hq
    · refine ⟨-2147483648,fun {b pre post Q s A} h hq => ?_⟩
      have hR : KR n m vdel reg src dst s A:=h.2.2.2.2
      have s4:=hR.2.2.1
      have e0 : s 0 = nI n:=h.1.1.e0
      have e1 : s 1 = nI m:=h.1.1.e1
      have c1 : (nI i < nI n) = False:=lF (by omega) (by omega)
      simp [s4,c0,c1,e0,e1,m20_0,m20_1,m20_4,m20_7,m20_8,m20_11,m20_12,m20_13,m20_16,m20_19,m20_21,m20_22,m20_23,m20_26,m20_27,m20_28,nb0,nb1,ou_a,Option.toList_some,Option.toList_none,List.nil_append,List.cons_append]
      exact hq
set_option maxRecDepth 1000000 in
set_option maxHeartbeats 20000000 in
theorem rrX (X : XS) {i : Nat} (hi : i < 100) : ∃ v : Int32,∀ {b : Nat} {pre post : AHeap} {Q : Option Value→AHeap→Prop} {s : Nat→Int32} {A : Nat→List Int32},E7 X s A→Q (some (.int v)) (put (b + 1) pre s A post)→M21 0 [.val (.ref (b + 1)),.val (.int (nI i))] [] (put (b + 1) pre s A post) Q:=by
  obtain ⟨n,m,ic,si,rt,vop,vdel,vk,reg,inp,out,src,dst⟩:=X
  cases rt with
  | false =>
    refine ⟨-6,fun {b pre post Q s A} h hq => ?_⟩
    have s4 : s 4 = 0:=h.2.2.2.2
    simp [s4,m21_0,m21_1,m21_4,m21_7,m21_9,m21_10,m21_11,m21_14,m21_15,m21_16,m21_19,m21_22,m21_24,m21_25,m21_26,m21_29,m21_30,m21_31,nb0,nb1,ou_a,Option.toList_some,Option.toList_none,List.nil_append,List.cons_append]
    exact hq
  | true =>
    have c0 : (nI i < 0) = False:=eq_false (nI_nn (by omega))
    by_cases z : i < m
    · refine ⟨cX n m vdel reg src dst i,fun {b pre post Q s A} h hq => ?_⟩
      have hR : KR n m vdel reg src dst s A:=h.2.2.2.2
      have s4:=hR.2.2.1
      have e0 : s 0 = nI n:=h.1.1.e0
      have e1 : s 1 = nI m:=h.1.1.e1
      have n32:=h.1.1.n32
      have m64:=h.1.1.m64
      have c1 : (nI i < nI m) = True:=lT z (by omega)
      have q:=in6 h.1.ln (i:=i) (by omega)
      have v:=hR.2.2.2.2.2.2.1 i z
      generalize cX n m vdel reg src dst i = V at *
      simp [s4,c0,c1,e0,e1,q,v,m21_0,m21_1,m21_4,m21_7,m21_9,m21_10,m21_11,m21_14,m21_15,m21_16,m21_19,m21_22,m21_24,m21_25,m21_26,m21_29,m21_30,m21_31,nb0,nb1,ou_a,Option.toList_some,Option.toList_none,List.nil_append,List.cons_append]
      exact hq
    · refine ⟨-2,fun {b pre post Q s A} h hq => ?_⟩
      have hR : KR n m vdel reg src dst s A:=h.2.2.2.2
      have s4:=hR.2.2.1
      have e0 : s 0 = nI n:=h.1.1.e0
      have e1 : s 1 = nI m:=h.1.1.e1
      have c1 : (nI i < nI m) = False:=lF (by omega) (by omega)
      simp [s4,c0,c1,e0,e1,m21_0,m21_1,m21_4,m21_7,m21_9,m21_10,m21_11,m21_14,m21_15,m21_16,m21_19,m21_22,m21_24,m21_25,m21_26,m21_29,m21_30,m21_31,nb0,nb1,ou_a,Option.toList_some,Option.toList_none,List.nil_append,List.cons_append]
      exact hq
set_option maxRecDepth 1000000 in
set_option maxHeartbeats 20000000 in
theorem rwX (X : XS) {i j : Nat} (hi : i < 32) (hj : j < 32) : ∃ v : Int32,∀ {b : Nat} {pre post : AHeap} {Q : Option Value→AHeap→Prop} {s : Nat→Int32} {A : Nat→List Int32},E7 X s A→Q (some (.int v)) (put (b + 1) pre s A post)→M22 0 [.val (.ref (b + 1)),.val (.int (nI i)),.val (.int (nI j)),.unset] [] (put (b + 1) pre s A post) Q:=by
  obtain ⟨n,m,ic,si,rt,vop,vdel,vk,reg,inp,out,src,dst⟩:=X
  have c0 : (nI i < 0) = False:=eq_false (nI_nn (by omega))
  have d0 : (nI j < 0) = False:=eq_false (nI_nn (by omega))
  cases rt with
  | false =>
    refine ⟨-6,fun {b pre post Q s A} h hq => ?_⟩
    have s4 : s 4 = 0:=h.2.2.2.2
    simp [s4,m23_0,m23_1,m23_4,m23_7,m23_9,m23_10,m23_11,m23_14,m23_15,m23_16,m23_19,m23_22,m23_23,m23_26,m23_27,m23_28,m23_31,m23_34,m23_36,m23_37,m23_38,m23_41,m23_42,m23_44,m23_45,m23_46,m23_47,m23_48,m23_51,m23_52,m23_53,m23_54,m22_0,m22_1,m22_2,m22_3,m22_6u,m22_7,m22_8,m22_11,m22_12,m22_13,m22_14,m22_17,m22_18,m22_20,m22_21,m22_22,m22_23,m22_24,nb0,nb1,ou_a,Option.toList_some,Option.toList_none,List.nil_append,List.cons_append]
    exact hq
  | true =>
    by_cases z : i < n
    case neg =>
      refine ⟨-2,fun {b pre post Q s A} h hq => ?_⟩
      have hR : KR n m vdel reg src dst s A:=h.2.2.2.2
      have s4:=hR.2.2.1
      have e0 : s 0 = nI n:=h.1.1.e0
      have c1 : (nI i < nI n) = False:=lF (by omega) (by omega)
      simp [s4,c0,c1,e0,m23_0,m23_1,m23_4,m23_7,m23_9,m23_10,m23_11,m23_14,m23_15,m23_16,m23_19,m23_22,m23_23,m23_26,m23_27,m23_28,m23_31,m23_34,m23_36,m23_37,m23_38,m23_41,m23_42,m23_44,m23_45,m23_46,m23_47,m23_48,m23_51,m23_52,m23_53,m23_54,m22_0,m22_1,m22_2,m22_3,m22_6u,m22_7,m22_8,m22_11,m22_12,m22_13,m22_14,m22_17,m22_18,m22_20,m22_21,m22_22,m22_23,m22_24,nb0,nb1,ou_a,Option.toList_some,Option.toList_none,List.nil_append,List.cons_append]
      exact hq
    by_cases y : j < n
    case neg =>
      refine ⟨-2,fun {b pre post Q s A} h hq => ?_⟩
      have hR : KR n m vdel reg src dst s A:=h.2.2.2.2
      have s4:=hR.2.2.1
      have e0 : s 0 = nI n:=h.1.1.e0
      have c1 : (nI i < nI n) = True:=lT z (by have:=h.1.1.n32; omega)
      have d1 : (nI j < nI n) = False:=lF (by omega) (by omega)
      simp [s4,c0,c1,d0,d1,e0,m23_0,m23_1,m23_4,m23_7,m23_9,m23_10,m23_11,m23_14,m23_15,m23_16,m23_19,m23_22,m23_23,m23_26,m23_27,m23_28,m23_31,m23_34,m23_36,m23_37,m23_38,m23_41,m23_42,m23_44,m23_45,m23_46,m23_47,m23_48,m23_51,m23_52,m23_53,m23_54,m22_0,m22_1,m22_2,m22_3,m22_6u,m22_7,m22_8,m22_11,m22_12,m22_13,m22_14,m22_17,m22_18,m22_20,m22_21,m22_22,m22_23,m22_24,nb0,nb1,ou_a,Option.toList_some,Option.toList_none,List.nil_append,List.cons_append]
      exact hq
    cases hr : (cR n m vdel reg src dst).1 (i * 32 + j)
    · refine ⟨-1,fun {b pre post Q s A} h hq => ?_⟩
      have hR : KR n m vdel reg src dst s A:=h.2.2.2.2
      have s4:=hR.2.2.1
      have e0 : s 0 = nI n:=h.1.1.e0
      have n32:=h.1.1.n32
      have c1 : (nI i < nI n) = True:=lT z (by omega)
      have d1 : (nI j < nI n) = True:=lT y (by omega)
      have q11:=in11 h.1.ln (i:=i * 32 + j) (by omega)
      have v11:=(hR.2.2.2.2.2.2.2.2 i j z y).1
      rw [hr] at v11
      have v11 : getA (A 11) (nI (i * 32 + j)) = 0:=v11
      simp [s4,c0,c1,d0,d1,e0,q11,v11,nI_32,nI_add,m23_0,m23_1,m23_4,m23_7,m23_9,m23_10,m23_11,m23_14,m23_15,m23_16,m23_19,m23_22,m23_23,m23_26,m23_27,m23_28,m23_31,m23_34,m23_36,m23_37,m23_38,m23_41,m23_42,m23_44,m23_45,m23_46,m23_47,m23_48,m23_51,m23_52,m23_53,m23_54,m22_0,m22_1,m22_2,m22_3,m22_6u,m22_7,m22_8,m22_11,m22_12,m22_13,m22_14,m22_17,m22_18,m22_20,m22_21,m22_22,m22_23,m22_24,nb0,nb1,ou_a,Option.toList_some,Option.toList_none,List.nil_append,List.cons_append]
      exact hq
    · refine ⟨(cR n m vdel reg src dst).2.1 (i * 32 + j),fun {b pre post Q s A} h hq => ?_⟩
      have hR : KR n m vdel reg src dst s A:=h.2.2.2.2
      have s4:=hR.2.2.1
      have e0 : s 0 = nI n:=h.1.1.e0
      have n32:=h.1.1.n32
      have c1 : (nI i < nI n) = True:=lT z (by omega)
      have d1 : (nI j < nI n) = True:=lT y (by omega)
      have q11:=in11 h.1.ln (i:=i * 32 + j) (by omega)
      have qa:=in9 h.1.ln (i:=i * 32 + j) (by omega)
      have q1:=in1 h.1.ln (i:=j) (by omega)
      have v1:=h.1.1.vd j y
      obtain ⟨v11,va⟩:=hR.2.2.2.2.2.2.2.2 i j z y
      have va:=(va hr).1
      rw [hr] at v11
      have v11 : getA (A 11) (nI (i * 32 + j)) = 1:=v11
      generalize (cR n m vdel reg src dst) = V at *
      simp [s4,c0,c1,d0,d1,e0,q11,v11,qa,va,q1,v1,nI_32,nI_add,m23_0,m23_1,m23_4,m23_7,m23_9,m23_10,m23_11,m23_14,m23_15,m23_16,m23_19,m23_22,m23_23,m23_26,m23_27,m23_28,m23_31,m23_34,m23_36,m23_37,m23_38,m23_41,m23_42,m23_44,m23_45,m23_46,m23_47,m23_48,m23_51,m23_52,m23_53,m23_54,m22_0,m22_1,m22_2,m22_3,m22_6u,m22_7,m22_8,m22_11,m22_12,m22_13,m22_14,m22_17,m22_18,m22_20,m22_21,m22_22,m22_23,m22_24,nb0,nb1,ou_a,Option.toList_some,Option.toList_none,List.nil_append,List.cons_append]
      exact hq
set_option maxRecDepth 1000000 in
set_option maxHeartbeats 20000000 in
theorem pdX (X : XS) {i j : Nat} (hi : i < 32) (hj : j < 32) : ∃ v : Int32,∀ {b : Nat} {pre post : AHeap} {Q : Option Value→AHeap→Prop} {s : Nat→Int32} {A : Nat→List Int32},E7 X s A→Q (some (.int v)) (put (b + 1) pre s A post)→M24 0 [.val (.ref (b + 1)),.val (.int (nI i)),.val (.int (nI j)),.unset] [] (put (b + 1) pre s A post) Q:=by
  obtain ⟨n,m,ic,si,rt,vop,vdel,vk,reg,inp,out,src,dst⟩:=X
  have c0 : (nI i < 0) = False:=eq_false (nI_nn (by omega))
  have d0 : (nI j < 0) = False:=eq_false (nI_nn (by omega))
  cases rt with
  | false =>
    refine ⟨-6,fun {b pre post Q s A} h hq => ?_⟩
    have s4 : s 4 = 0:=h.2.2.2.2
    simp [s4,m23_0,m23_1,m23_4,m23_7,m23_9,m23_10,m23_11,m23_14,m23_15,m23_16,m23_19,m23_22,m23_23,m23_26,m23_27,m23_28,m23_31,m23_34,m23_36,m23_37,m23_38,m23_41,m23_42,m23_44,m23_45,m23_46,m23_47,m23_48,m23_51,m23_52,m23_53,m23_54,m24_0,m24_1,m24_2,m24_3,m24_6u,m24_7,m24_8,m24_11,m24_12,m24_13,m24_14,m24_17,m24_18,m24_20,m24_21,m24_22,m24_23,m24_24,m24_25,m24_28,m24_29,m24_30,m24_31,nb0,nb1,ou_a,Option.toList_some,Option.toList_none,List.nil_append,List.cons_append]
    exact hq
  | true =>
    by_cases z : i < n
    case neg =>
      refine ⟨-2,fun {b pre post Q s A} h hq => ?_⟩
      have hR : KR n m vdel reg src dst s A:=h.2.2.2.2
      have s4:=hR.2.2.1
      have e0 : s 0 = nI n:=h.1.1.e0
      have c1 : (nI i < nI n) = False:=lF (by omega) (by omega)
      simp [s4,c0,c1,e0,m23_0,m23_1,m23_4,m23_7,m23_9,m23_10,m23_11,m23_14,m23_15,m23_16,m23_19,m23_22,m23_23,m23_26,m23_27,m23_28,m23_31,m23_34,m23_36,m23_37,m23_38,m23_41,m23_42,m23_44,m23_45,m23_46,m23_47,m23_48,m23_51,m23_52,m23_53,m23_54,m24_0,m24_1,m24_2,m24_3,m24_6u,m24_7,m24_8,m24_11,m24_12,m24_13,m24_14,m24_17,m24_18,m24_20,m24_21,m24_22,m24_23,m24_24,m24_25,m24_28,m24_29,m24_30,m24_31,nb0,nb1,ou_a,Option.toList_some,Option.toList_none,List.nil_append,List.cons_append]
      exact hq
    by_cases y : j < n
    case neg =>
      refine ⟨-2,fun {b pre post Q s A} h hq => ?_⟩
      have hR : KR n m vdel reg src dst s A:=h.2.2.2.2
      have s4:=hR.2.2.1
      have e0 : s 0 = nI n:=h.1.1.e0
      have c1 : (nI i < nI n) = True:=lT z (by have:=h.1.1.n32; omega)
      have d1 : (nI j < nI n) = False:=lF (by omega) (by omega)
      simp [s4,c0,c1,d0,d1,e0,m23_0,m23_1,m23_4,m23_7,m23_9,m23_10,m23_11,m23_14,m23_15,m23_16,m23_19,m23_22,m23_23,m23_26,m23_27,m23_28,m23_31,m23_34,m23_36,m23_37,m23_38,m23_41,m23_42,m23_44,m23_45,m23_46,m23_47,m23_48,m23_51,m23_52,m23_53,m23_54,m24_0,m24_1,m24_2,m24_3,m24_6u,m24_7,m24_8,m24_11,m24_12,m24_13,m24_14,m24_17,m24_18,m24_20,m24_21,m24_22,m24_23,m24_24,m24_25,m24_28,m24_29,m24_30,m24_31,nb0,nb1,ou_a,Option.toList_some,Option.toList_none,List.nil_append,List.cons_append]
      exact hq
    cases hr : (cR n m vdel reg src dst).1 (i * 32 + j)
    · refine ⟨-1,fun {b pre post Q s A} h hq => ?_⟩
      have hR : KR n m vdel reg src dst s A:=h.2.2.2.2
      have s4:=hR.2.2.1
      have e0 : s 0 = nI n:=h.1.1.e0
      have n32:=h.1.1.n32
      have c1 : (nI i < nI n) = True:=lT z (by omega)
      have d1 : (nI j < nI n) = True:=lT y (by omega)
      have q11:=in11 h.1.ln (i:=i * 32 + j) (by omega)
      have v11:=(hR.2.2.2.2.2.2.2.2 i j z y).1
      rw [hr] at v11
      have v11 : getA (A 11) (nI (i * 32 + j)) = 0:=v11
      simp [s4,c0,c1,d0,d1,e0,q11,v11,nI_32,nI_add,m23_0,m23_1,m23_4,m23_7,m23_9,m23_10,m23_11,m23_14,m23_15,m23_16,m23_19,m23_22,m23_23,m23_26,m23_27,m23_28,m23_31,m23_34,m23_36,m23_37,m23_38,m23_41,m23_42,m23_44,m23_45,m23_46,m23_47,m23_48,m23_51,m23_52,m23_53,m23_54,m24_0,m24_1,m24_2,m24_3,m24_6u,m24_7,m24_8,m24_11,m24_12,m24_13,m24_14,m24_17,m24_18,m24_20,m24_21,m24_22,m24_23,m24_24,m24_25,m24_28,m24_29,m24_30,m24_31,nb0,nb1,ou_a,Option.toList_some,Option.toList_none,List.nil_append,List.cons_append]
      exact hq
    · refine ⟨(cR n m vdel reg src dst).2.2 (i * 32 + j) + vdel j,fun {b pre post Q s A} h hq => ?_⟩
      have hR : KR n m vdel reg src dst s A:=h.2.2.2.2
      have s4:=hR.2.2.1
      have e0 : s 0 = nI n:=h.1.1.e0
      have n32:=h.1.1.n32
      have c1 : (nI i < nI n) = True:=lT z (by omega)
      have d1 : (nI j < nI n) = True:=lT y (by omega)
      have q11:=in11 h.1.ln (i:=i * 32 + j) (by omega)
      have qa:=in10 h.1.ln (i:=i * 32 + j) (by omega)
      have q1:=in1 h.1.ln (i:=j) (by omega)
      have v1:=h.1.1.vd j y
      obtain ⟨v11,va⟩:=hR.2.2.2.2.2.2.2.2 i j z y
      have va:=(va hr).2
      rw [hr] at v11
      have v11 : getA (A 11) (nI (i * 32 + j)) = 1:=v11
      generalize (cR n m vdel reg src dst) = V at *
      simp [s4,c0,c1,d0,d1,e0,q11,v11,qa,va,q1,v1,nI_32,nI_add,m23_0,m23_1,m23_4,m23_7,m23_9,m23_10,m23_11,m23_14,m23_15,m23_16,m23_19,m23_22,m23_23,m23_26,m23_27,m23_28,m23_31,m23_34,m23_36,m23_37,m23_38,m23_41,m23_42,m23_44,m23_45,m23_46,m23_47,m23_48,m23_51,m23_52,m23_53,m23_54,m24_0,m24_1,m24_2,m24_3,m24_6u,m24_7,m24_8,m24_11,m24_12,m24_13,m24_14,m24_17,m24_18,m24_20,m24_21,m24_22,m24_23,m24_24,m24_25,m24_28,m24_29,m24_30,m24_31,nb0,nb1,ou_a,Option.toList_some,Option.toList_none,List.nil_append,List.cons_append]
      exact hq
set_option maxRecDepth 1000000 in
set_option maxHeartbeats 20000000 in
theorem oX (X : XS) {c u : Nat} (hc : c≤1) (hu : u≤32) : ∃ v : Int32,∀ {b : Nat} {pre post : AHeap} {Q : Option Value→AHeap→Prop} {s : Nat→Int32} {A : Nat→List Int32},E7 X s A→Q (some (.int v)) (put (b + 1) pre s A post)→M25 0 [.val (.ref (b + 1)),.val (.int (nI c)),.val (.int (nI u))] [] (put (b + 1) pre s A post) Q:=by
  obtain ⟨n,m,ic,si,rt,vop,vdel,vk,reg,inp,out,src,dst⟩:=X
  refine ⟨if u < si then out (c * 32 + u) else 0,fun {b pre post Q s A} h hq => ?_⟩
  refine ouW (f:=fun u => out (c * 32 + u)) hc hu h.1.ln h.2.1 h.2.2.1 (fun u hu => ?_) hq
  rcases (by omega : c = 0 ∨ c = 1) with rfl | rfl
  · rw [Nat.zero_mul,Nat.zero_add]; exact (h.2.2.2.1 u hu).1
  · rw [Nat.one_mul]; exact (h.2.2.2.1 u hu).2
def tl (s : Nat→Int32) (A : Nat→List Int32) : AHeap:=((.object "RetimingEngine", objv 20 s)::(.array .int,(A 0).map Value.int)::(.array .int,(A 1).map Value.int)::(.array .int,(A 2).map Value.int)::(.array .int,(A 3).map Value.int)::(.array .int,(A 4).map Value.int)::(.array .int,(A 5).map Value.int)::(.array .int,(A 6).map Value.int)::(.array .int,(A 7).map Value.int)::(.array .int,(A 8).map Value.int)::(.array .int,(A 9).map Value.int)::(.array .int,(A 10).map Value.int)::(.array .boolean,(A 11).map Value.int)::(.array .int,(A 12).map Value.int)::(.array .int,(A 13).map Value.int)::(.array .int,(A 14).map Value.int)::(.array .int,(A 15).map Value.int)::(.array .int,(A 16).map Value.int)::(.array .int,(A 17).map Value.int)::[])
theorem vw {p : AHeap} {s t : Nat→Int32} {A T : Nat→List Int32} : put 1 p s A (tl t T) = put 20 (put 1 p s A []) t T []:=by
  have hl : (put 1 p s A []).length = 20:=by rw [put_len]; rfl
  have e : put 20 (put 1 p s A []) t T [] = put 1 p s A [] ++ tl t T:=by
    show pad 20 (put 1 p s A []) ++ tl t T = _
    rw [pad_eq hl]
  rw [e]
  simp only [put,List.append_assoc,List.cons_append,List.nil_append]
section Same
variable {vs : List Int32} {Q : Option Value→AHeap→Prop} {s t : Nat→Int32} {A T : Nat→List Int32} {X : XS}
set_option maxRecDepth 1000000 in
set_option maxHeartbeats 20000000 in
theorem sm4 (h1 : E7 X s A) (h2 : E7 X t T) (hq : Q (some (.int 1)) (put 1 [((FieldType.array .int,vs.map Value.int) : FieldType × List Value)] s A (tl t T))) : ∀ (r k : Nat) (z2 z3 : Int32) (l5 : Slot),k + r = 32→okS l5→M31 227 [.val (.ref 1),.val (.ref 20),.val (.int z2),.val (.int z3),.val (.int (nI k)),l5] [] (put 1 [((FieldType.array .int,vs.map Value.int) : FieldType × List Value)] s A (tl t T)) Q:=by
  intro r
  induction r with
  | zero =>
    intro k z2 z3 l5 e o5
    have c1 : (nI k < 32) = False:=lF (c:=32) (by omega) (by omega)
    rw [m31_227]
    simp [c1,m31_229,m31_231,m31_286,m31_287,nb0,nb1,ou_a,Option.toList_some,Option.toList_none,List.nil_append,List.cons_append]
    exact hq
  | succ r ih =>
    intro k z2 z3 l5 e o5
    have c1 : (nI k < 32) = True:=lT (c:=32) (by omega) (by decide)
    obtain ⟨v1,f1⟩:=oX X (c:=0) (u:=k) (by decide) (by omega)
    obtain ⟨v2,f2⟩:=oX X (c:=1) (u:=k) (by decide) (by omega)
    rw [m31_227]
    simp [c1,nI_1,m31_229,m31_231,m31_234,m31_235,m31_236,m31_238,m31_241i,m31_242,m31_243,m31_244,m31_246,m31_249i,m31_250,m31_251,m31_252,m31_255,m31_256,m31_257,m31_258,m31_259,m31_261,m31_264i,m31_265,m31_266,m31_267,m31_269,m31_272i,m31_273,m31_274,m31_275,m31_278,m31_279,m31_280,m31_283,nb0,nb1,ou_a,Option.toList_some,Option.toList_none,List.nil_append,List.cons_append]
    refine @f1 0 _ _ _ _ _ h1 ?_
    try simp [c1,nI_1,m31_229,m31_231,m31_234,m31_235,m31_236,m31_238,m31_241i,m31_242,m31_243,m31_244,m31_246,m31_249i,m31_250,m31_251,m31_252,m31_255,m31_256,m31_257,m31_258,m31_259,m31_261,m31_264i,m31_265,m31_266,m31_267,m31_269,m31_272i,m31_273,m31_274,m31_275,m31_278,m31_279,m31_280,m31_283,nb0,nb1,ou_a,Option.toList_some,Option.toList_none,List.nil_append,List.cons_append]
    rw [vw]
    try simp [c1,nI_1,m31_229,m31_231,m31_234,m31_235,m31_236,m31_238,m31_241i,m31_242,m31_243,m31_244,m31_246,m31_249i,m31_250,m31_251,m31_252,m31_255,m31_256,m31_257,m31_258,m31_259,m31_261,m31_264i,m31_265,m31_266,m31_267,m31_269,m31_272i,m31_273,m31_274,m31_275,m31_278,m31_279,m31_280,m31_283,nb0,nb1,ou_a,Option.toList_some,Option.toList_none,List.nil_append,List.cons_append]
    refine @f1 19 _ _ _ _ _ h2 ?_
    try simp [c1,nI_1,m31_229,m31_231,m31_234,m31_235,m31_236,m31_238,m31_241i,m31_242,m31_243,m31_244,m31_246,m31_249i,m31_250,m31_251,m31_252,m31_255,m31_256,m31_257,m31_258,m31_259,m31_261,m31_264i,m31_265,m31_266,m31_267,m31_269,m31_272i,m31_273,m31_274,m31_275,m31_278,m31_279,m31_280,m31_283,nb0,nb1,ou_a,Option.toList_some,Option.toList_none,List.nil_append,List.cons_append]
    rw [← vw]
    try simp [c1,nI_1,m31_229,m31_231,m31_234,m31_235,m31_236,m31_238,m31_241i,m31_242,m31_243,m31_244,m31_246,m31_249i,m31_250,m31_251,m31_252,m31_255,m31_256,m31_257,m31_258,m31_259,m31_261,m31_264i,m31_265,m31_266,m31_267,m31_269,m31_272i,m31_273,m31_274,m31_275,m31_278,m31_279,m31_280,m31_283,nb0,nb1,ou_a,Option.toList_some,Option.toList_none,List.nil_append,List.cons_append]
    refine @f2 0 _ _ _ _ _ h1 ?_
    try simp [c1,nI_1,m31_229,m31_231,m31_234,m31_235,m31_236,m31_238,m31_241i,m31_242,m31_243,m31_244,m31_246,m31_249i,m31_250,m31_251,m31_252,m31_255,m31_256,m31_257,m31_258,m31_259,m31_261,m31_264i,m31_265,m31_266,m31_267,m31_269,m31_272i,m31_273,m31_274,m31_275,m31_278,m31_279,m31_280,m31_283,nb0,nb1,ou_a,Option.toList_some,Option.toList_none,List.nil_append,List.cons_append]
    rw [vw]
    try simp [c1,nI_1,m31_229,m31_231,m31_234,m31_235,m31_236,m31_238,m31_241i,m31_242,m31_243,m31_244,m31_246,m31_249i,m31_250,m31_251,m31_252,m31_255,m31_256,m31_257,m31_258,m31_259,m31_261,m31_264i,m31_265,m31_266,m31_267,m31_269,m31_272i,m31_273,m31_274,m31_275,m31_278,m31_279,m31_280,m31_283,nb0,nb1,ou_a,Option.toList_some,Option.toList_none,List.nil_append,List.cons_append]
    refine @f2 19 _ _ _ _ _ h2 ?_
    try simp [c1,nI_1,m31_229,m31_231,m31_234,m31_235,m31_236,m31_238,m31_241i,m31_242,m31_243,m31_244,m31_246,m31_249i,m31_250,m31_251,m31_252,m31_255,m31_256,m31_257,m31_258,m31_259,m31_261,m31_264i,m31_265,m31_266,m31_267,m31_269,m31_272i,m31_273,m31_274,m31_275,m31_278,m31_279,m31_280,m31_283,nb0,nb1,ou_a,Option.toList_some,Option.toList_none,List.nil_append,List.cons_append]
    rw [← vw]
    try simp [c1,nI_1,m31_229,m31_231,m31_234,m31_235,m31_236,m31_238,m31_241i,m31_242,m31_243,m31_244,m31_246,m31_249i,m31_250,m31_251,m31_252,m31_255,m31_256,m31_257,m31_258,m31_259,m31_261,m31_264i,m31_265,m31_266,m31_267,m31_269,m31_272i,m31_273,m31_274,m31_275,m31_278,m31_279,m31_280,m31_283,nb0,nb1,ou_a,Option.toList_some,Option.toList_none,List.nil_append,List.cons_append]
    exact ih (k + 1) _ _ _ (by omega) o5
set_option maxRecDepth 1000000 in
set_option maxHeartbeats 20000000 in
theorem sm3i {u : Nat} (hu : u < 8) (h1 : E7 X s A) (h2 : E7 X t T) (hq : ∀ z2 z3 : Int32,M31 145 [.val (.ref 1),.val (.ref 20),.val (.int z2),.val (.int z3),.val (.int (nI (u + 1))),.val (.int (nI 8))] [] (put 1 [((FieldType.array .int,vs.map Value.int) : FieldType × List Value)] s A (tl t T)) Q) : ∀ (r k : Nat) (z2 z3 : Int32),k + r = 8→M31 155 [.val (.ref 1),.val (.ref 20),.val (.int z2),.val (.int z3),.val (.int (nI u)),.val (.int (nI k))] [] (put 1 [((FieldType.array .int,vs.map Value.int) : FieldType × List Value)] s A (tl t T)) Q:=by
  intro r
  induction r with
  | zero =>
    intro k z2 z3 e
    obtain rfl : k = 8:=by omega
    have c1 : (nI 8 < 8) = False:=lF (a:=8) (c:=8) (by omega) (by decide)
    rw [m31_155]
    simp [c1,nI_1,m31_157,m31_159,m31_218,m31_221,nb0,nb1,ou_a,Option.toList_some,Option.toList_none,List.nil_append,List.cons_append]
    exact hq _ _
  | succ r ih =>
    intro k z2 z3 e
    have c1 : (nI k < 8) = True:=lT (c:=8) (by omega) (by decide)
    obtain ⟨v1,f1⟩:=rwX X (i:=u) (j:=k) (by omega) (by omega)
    obtain ⟨v2,f2⟩:=pdX X (i:=u) (j:=k) (by omega) (by omega)
    rw [m31_155]
    simp [c1,nI_1,m31_157,m31_159,m31_162,m31_163,m31_165,m31_167,m31_170i,m31_171,m31_172,m31_174,m31_176,m31_179i,m31_180,m31_181,m31_182,m31_185,m31_186,m31_187,m31_188,m31_190,m31_192,m31_195i,m31_196,m31_197,m31_199,m31_201,m31_204i,m31_205,m31_206,m31_207,m31_210,m31_211,m31_212,m31_215,nb0,nb1,ou_a,Option.toList_some,Option.toList_none,List.nil_append,List.cons_append]
    refine @f1 0 _ _ _ _ _ h1 ?_
    try simp [c1,nI_1,m31_157,m31_159,m31_162,m31_163,m31_165,m31_167,m31_170i,m31_171,m31_172,m31_174,m31_176,m31_179i,m31_180,m31_181,m31_182,m31_185,m31_186,m31_187,m31_188,m31_190,m31_192,m31_195i,m31_196,m31_197,m31_199,m31_201,m31_204i,m31_205,m31_206,m31_207,m31_210,m31_211,m31_212,m31_215,nb0,nb1,ou_a,Option.toList_some,Option.toList_none,List.nil_append,List.cons_append]
    rw [vw]
    try simp [c1,nI_1,m31_157,m31_159,m31_162,m31_163,m31_165,m31_167,m31_170i,m31_171,m31_172,m31_174,m31_176,m31_179i,m31_180,m31_181,m31_182,m31_185,m31_186,m31_187,m31_188,m31_190,m31_192,m31_195i,m31_196,m31_197,m31_199,m31_201,m31_204i,m31_205,m31_206,m31_207,m31_210,m31_211,m31_212,m31_215,nb0,nb1,ou_a,Option.toList_some,Option.toList_none,List.nil_append,List.cons_append]
    refine @f1 19 _ _ _ _ _ h2 ?_
    try simp [c1,nI_1,m31_157,m31_159,m31_162,m31_163,m31_165,m31_167,m31_170i,m31_171,m31_172,m31_174,m31_176,m31_179i,m31_180,m31_181,m31_182,m31_185,m31_186,m31_187,m31_188,m31_190,m31_192,m31_195i,m31_196,m31_197,m31_199,m31_201,m31_204i,m31_205,m31_206,m31_207,m31_210,m31_211,m31_212,m31_215,nb0,nb1,ou_a,Option.toList_some,Option.toList_none,List.nil_append,List.cons_append]
    rw [← vw]
    try simp [c1,nI_1,m31_157,m31_159,m31_162,m31_163,m31_165,m31_167,m31_170i,m31_171,m31_172,m31_174,m31_176,m31_179i,m31_180,m31_181,m31_182,m31_185,m31_186,m31_187,m31_188,m31_190,m31_192,m31_195i,m31_196,m31_197,m31_199,m31_201,m31_204i,m31_205,m31_206,m31_207,m31_210,m31_211,m31_212,m31_215,nb0,nb1,ou_a,Option.toList_some,Option.toList_none,List.nil_append,List.cons_append]
    refine @f2 0 _ _ _ _ _ h1 ?_
    try simp [c1,nI_1,m31_157,m31_159,m31_162,m31_163,m31_165,m31_167,m31_170i,m31_171,m31_172,m31_174,m31_176,m31_179i,m31_180,m31_181,m31_182,m31_185,m31_186,m31_187,m31_188,m31_190,m31_192,m31_195i,m31_196,m31_197,m31_199,m31_201,m31_204i,m31_205,m31_206,m31_207,m31_210,m31_211,m31_212,m31_215,nb0,nb1,ou_a,Option.toList_some,Option.toList_none,List.nil_append,List.cons_append]
    rw [vw]
    try simp [c1,nI_1,m31_157,m31_159,m31_162,m31_163,m31_165,m31_167,m31_170i,m31_171,m31_172,m31_174,m31_176,m31_179i,m31_180,m31_181,m31_182,m31_185,m31_186,m31_187,m31_188,m31_190,m31_192,m31_195i,m31_196,m31_197,m31_199,m31_201,m31_204i,m31_205,m31_206,m31_207,m31_210,m31_211,m31_212,m31_215,nb0,nb1,ou_a,Option.toList_some,Option.toList_none,List.nil_append,List.cons_append]
    refine @f2 19 _ _ _ _ _ h2 ?_
    try simp [c1,nI_1,m31_157,m31_159,m31_162,m31_163,m31_165,m31_167,m31_170i,m31_171,m31_172,m31_174,m31_176,m31_179i,m31_180,m31_181,m31_182,m31_185,m31_186,m31_187,m31_188,m31_190,m31_192,m31_195i,m31_196,m31_197,m31_199,m31_201,m31_204i,m31_205,m31_206,m31_207,m31_210,m31_211,m31_212,m31_215,nb0,nb1,ou_a,Option.toList_some,Option.toList_none,List.nil_append,List.cons_append]
    rw [← vw]
    try simp [c1,nI_1,m31_157,m31_159,m31_162,m31_163,m31_165,m31_167,m31_170i,m31_171,m31_172,m31_174,m31_176,m31_179i,m31_180,m31_181,m31_182,m31_185,m31_186,m31_187,m31_188,m31_190,m31_192,m31_195i,m31_196,m31_197,m31_199,m31_201,m31_204i,m31_205,m31_206,m31_207,m31_210,m31_211,m31_212,m31_215,nb0,nb1,ou_a,Option.toList_some,Option.toList_none,List.nil_append,List.cons_append]
    exact ih (k + 1) _ _ (by omega)
set_option maxRecDepth 1000000 in
set_option maxHeartbeats 20000000 in
theorem sm3 (h1 : E7 X s A) (h2 : E7 X t T) (hq : Q (some (.int 1)) (put 1 [((FieldType.array .int,vs.map Value.int) : FieldType × List Value)] s A (tl t T))) : ∀ (r k : Nat) (z2 z3 : Int32) (l5 : Slot),k + r = 8→okS l5→M31 145 [.val (.ref 1),.val (.ref 20),.val (.int z2),.val (.int z3),.val (.int (nI k)),l5] [] (put 1 [((FieldType.array .int,vs.map Value.int) : FieldType × List Value)] s A (tl t T)) Q:=by
  intro r
  induction r with
  | zero =>
    intro k z2 z3 l5 e o5
    have c1 : (nI k < 8) = False:=lF (c:=8) (by omega) (by omega)
    rw [m31_145]
    simp [c1,m31_147,m31_149,m31_224,m31_225i,nb0,nb1,ou_a,Option.toList_some,Option.toList_none,List.nil_append,List.cons_append]
    exact sm4 h1 h2 hq 32 0 _ _ _ (by omega) o5
  | succ r ih =>
    intro k z2 z3 l5 e o5
    have c1 : (nI k < 8) = True:=lT (c:=8) (by omega) (by decide)
    rw [m31_145]
    simp [c1,o5,m31_147,m31_149,m31_152,m31_153u,m31_153i,m31_153r,m31_153g,nb0,nb1,ou_a,Option.toList_some,Option.toList_none,List.nil_append,List.cons_append]
    exact sm3i (by omega) h1 h2 (fun z2 z3 => ih (k + 1) _ _ _ (by omega) (okS_n _)) 8 0 _ _ (by omega)
set_option maxRecDepth 1000000 in
set_option maxHeartbeats 20000000 in
theorem sm2 (h1 : E7 X s A) (h2 : E7 X t T) (hq : Q (some (.int 1)) (put 1 [((FieldType.array .int,vs.map Value.int) : FieldType × List Value)] s A (tl t T))) : ∀ (r k : Nat) (z2 z3 : Int32) (l5 : Slot),k + r = 64→okS l5→M31 108 [.val (.ref 1),.val (.ref 20),.val (.int z2),.val (.int z3),.val (.int (nI k)),l5] [] (put 1 [((FieldType.array .int,vs.map Value.int) : FieldType × List Value)] s A (tl t T)) Q:=by
  intro r
  induction r with
  | zero =>
    intro k z2 z3 l5 e o5
    have c1 : (nI k < 64) = False:=lF (c:=64) (by omega) (by omega)
    rw [m31_108]
    simp [c1,m31_110,m31_112,m31_142,m31_143i,nb0,nb1,ou_a,Option.toList_some,Option.toList_none,List.nil_append,List.cons_append]
    exact sm3 h1 h2 hq 8 0 _ _ _ (by omega) o5
  | succ r ih =>
    intro k z2 z3 l5 e o5
    have c1 : (nI k < 64) = True:=lT (c:=64) (by omega) (by decide)
    obtain ⟨v1,f1⟩:=rrX X (i:=k) (by omega)
    rw [m31_108]
    simp [c1,nI_1,m31_110,m31_112,m31_115,m31_116,m31_118,m31_121i,m31_122,m31_123,m31_125,m31_128i,m31_129,m31_130,m31_131,m31_134,m31_135,m31_136,m31_139,nb0,nb1,ou_a,Option.toList_some,Option.toList_none,List.nil_append,List.cons_append]
    refine @f1 0 _ _ _ _ _ h1 ?_
    try simp [c1,nI_1,m31_110,m31_112,m31_115,m31_116,m31_118,m31_121i,m31_122,m31_123,m31_125,m31_128i,m31_129,m31_130,m31_131,m31_134,m31_135,m31_136,m31_139,nb0,nb1,ou_a,Option.toList_some,Option.toList_none,List.nil_append,List.cons_append]
    rw [vw]
    try simp [c1,nI_1,m31_110,m31_112,m31_115,m31_116,m31_118,m31_121i,m31_122,m31_123,m31_125,m31_128i,m31_129,m31_130,m31_131,m31_134,m31_135,m31_136,m31_139,nb0,nb1,ou_a,Option.toList_some,Option.toList_none,List.nil_append,List.cons_append]
    refine @f1 19 _ _ _ _ _ h2 ?_
    try simp [c1,nI_1,m31_110,m31_112,m31_115,m31_116,m31_118,m31_121i,m31_122,m31_123,m31_125,m31_128i,m31_129,m31_130,m31_131,m31_134,m31_135,m31_136,m31_139,nb0,nb1,ou_a,Option.toList_some,Option.toList_none,List.nil_append,List.cons_append]
    rw [← vw]
    try simp [c1,nI_1,m31_110,m31_112,m31_115,m31_116,m31_118,m31_121i,m31_122,m31_123,m31_125,m31_128i,m31_129,m31_130,m31_131,m31_134,m31_135,m31_136,m31_139,nb0,nb1,ou_a,Option.toList_some,Option.toList_none,List.nil_append,List.cons_append]
    exact ih (k + 1) _ _ _ (by omega) o5
set_option maxRecDepth 1000000 in
set_option maxHeartbeats 20000000 in
theorem sm1 (h1 : E7 X s A) (h2 : E7 X t T) (hq : Q (some (.int 1)) (put 1 [((FieldType.array .int,vs.map Value.int) : FieldType × List Value)] s A (tl t T))) : ∀ (r k : Nat) (z2 z3 : Int32) (l5 : Slot),k + r = 32→okS l5→M31 71 [.val (.ref 1),.val (.ref 20),.val (.int z2),.val (.int z3),.val (.int (nI k)),l5] [] (put 1 [((FieldType.array .int,vs.map Value.int) : FieldType × List Value)] s A (tl t T)) Q:=by
  intro r
  induction r with
  | zero =>
    intro k z2 z3 l5 e o5
    have c1 : (nI k < 32) = False:=lF (c:=32) (by omega) (by omega)
    rw [m31_71]
    simp [c1,m31_73,m31_75,m31_105,m31_106i,nb0,nb1,ou_a,Option.toList_some,Option.toList_none,List.nil_append,List.cons_append]
    exact sm2 h1 h2 hq 64 0 _ _ _ (by omega) o5
  | succ r ih =>
    intro k z2 z3 l5 e o5
    have c1 : (nI k < 32) = True:=lT (c:=32) (by omega) (by decide)
    obtain ⟨v1,f1⟩:=lgX X (i:=k) (by omega)
    rw [m31_71]
    simp [c1,nI_1,m31_73,m31_75,m31_78,m31_79,m31_81,m31_84i,m31_85,m31_86,m31_88,m31_91i,m31_92,m31_93,m31_94,m31_97,m31_98,m31_99,m31_102,nb0,nb1,ou_a,Option.toList_some,Option.toList_none,List.nil_append,List.cons_append]
    refine @f1 0 _ _ _ _ _ h1 ?_
    try simp [c1,nI_1,m31_73,m31_75,m31_78,m31_79,m31_81,m31_84i,m31_85,m31_86,m31_88,m31_91i,m31_92,m31_93,m31_94,m31_97,m31_98,m31_99,m31_102,nb0,nb1,ou_a,Option.toList_some,Option.toList_none,List.nil_append,List.cons_append]
    rw [vw]
    try simp [c1,nI_1,m31_73,m31_75,m31_78,m31_79,m31_81,m31_84i,m31_85,m31_86,m31_88,m31_91i,m31_92,m31_93,m31_94,m31_97,m31_98,m31_99,m31_102,nb0,nb1,ou_a,Option.toList_some,Option.toList_none,List.nil_append,List.cons_append]
    refine @f1 19 _ _ _ _ _ h2 ?_
    try simp [c1,nI_1,m31_73,m31_75,m31_78,m31_79,m31_81,m31_84i,m31_85,m31_86,m31_88,m31_91i,m31_92,m31_93,m31_94,m31_97,m31_98,m31_99,m31_102,nb0,nb1,ou_a,Option.toList_some,Option.toList_none,List.nil_append,List.cons_append]
    rw [← vw]
    try simp [c1,nI_1,m31_73,m31_75,m31_78,m31_79,m31_81,m31_84i,m31_85,m31_86,m31_88,m31_91i,m31_92,m31_93,m31_94,m31_97,m31_98,m31_99,m31_102,nb0,nb1,ou_a,Option.toList_some,Option.toList_none,List.nil_append,List.cons_append]
    exact ih (k + 1) _ _ _ (by omega) o5
set_option maxRecDepth 1000000 in
set_option maxHeartbeats 20000000 in
theorem smA (h1 : E7 X s A) (h2 : E7 X t T) (hq : Q (some (.int 1)) (put 1 [((FieldType.array .int,vs.map Value.int) : FieldType × List Value)] s A (tl t T))) : M31 0 [.val (.ref 1),.val (.ref 20),.unset,.unset,.unset,.unset] [] (put 1 [((FieldType.array .int,vs.map Value.int) : FieldType × List Value)] s A (tl t T)) Q:=by
  obtain ⟨v1,f1⟩:=ecX X
  obtain ⟨v2,f2⟩:=mpX X
  obtain ⟨v3,f3⟩:=opX X
  obtain ⟨v4,f4⟩:=rpX X
  simp [m31_0,m31_1,m31_4u,m31_5,m31_6,m31_9u,m31_10,m31_11,m31_12,m31_15,m31_16,m31_17,m31_18,m31_21i,m31_22,m31_23,m31_26i,m31_27,m31_28,m31_29,m31_32,m31_33,m31_34,m31_35,m31_38i,m31_39,m31_40,m31_43i,m31_44,m31_45,m31_46,m31_49,m31_50,m31_51,m31_52,m31_55i,m31_56,m31_57,m31_60i,m31_61,m31_62,m31_63,m31_66,m31_67,m31_68,m31_69u,nb0,nb1,ou_a,Option.toList_some,Option.toList_none,List.nil_append,List.cons_append]
  refine @f1 0 _ _ _ _ _ h1 ?_
  try simp [m31_0,m31_1,m31_4u,m31_5,m31_6,m31_9u,m31_10,m31_11,m31_12,m31_15,m31_16,m31_17,m31_18,m31_21i,m31_22,m31_23,m31_26i,m31_27,m31_28,m31_29,m31_32,m31_33,m31_34,m31_35,m31_38i,m31_39,m31_40,m31_43i,m31_44,m31_45,m31_46,m31_49,m31_50,m31_51,m31_52,m31_55i,m31_56,m31_57,m31_60i,m31_61,m31_62,m31_63,m31_66,m31_67,m31_68,m31_69u,nb0,nb1,ou_a,Option.toList_some,Option.toList_none,List.nil_append,List.cons_append]
  rw [vw]
  try simp [m31_0,m31_1,m31_4u,m31_5,m31_6,m31_9u,m31_10,m31_11,m31_12,m31_15,m31_16,m31_17,m31_18,m31_21i,m31_22,m31_23,m31_26i,m31_27,m31_28,m31_29,m31_32,m31_33,m31_34,m31_35,m31_38i,m31_39,m31_40,m31_43i,m31_44,m31_45,m31_46,m31_49,m31_50,m31_51,m31_52,m31_55i,m31_56,m31_57,m31_60i,m31_61,m31_62,m31_63,m31_66,m31_67,m31_68,m31_69u,nb0,nb1,ou_a,Option.toList_some,Option.toList_none,List.nil_append,List.cons_append]
  refine @f1 19 _ _ _ _ _ h2 ?_
  try simp [m31_0,m31_1,m31_4u,m31_5,m31_6,m31_9u,m31_10,m31_11,m31_12,m31_15,m31_16,m31_17,m31_18,m31_21i,m31_22,m31_23,m31_26i,m31_27,m31_28,m31_29,m31_32,m31_33,m31_34,m31_35,m31_38i,m31_39,m31_40,m31_43i,m31_44,m31_45,m31_46,m31_49,m31_50,m31_51,m31_52,m31_55i,m31_56,m31_57,m31_60i,m31_61,m31_62,m31_63,m31_66,m31_67,m31_68,m31_69u,nb0,nb1,ou_a,Option.toList_some,Option.toList_none,List.nil_append,List.cons_append]
  rw [← vw]
  try simp [m31_0,m31_1,m31_4u,m31_5,m31_6,m31_9u,m31_10,m31_11,m31_12,m31_15,m31_16,m31_17,m31_18,m31_21i,m31_22,m31_23,m31_26i,m31_27,m31_28,m31_29,m31_32,m31_33,m31_34,m31_35,m31_38i,m31_39,m31_40,m31_43i,m31_44,m31_45,m31_46,m31_49,m31_50,m31_51,m31_52,m31_55i,m31_56,m31_57,m31_60i,m31_61,m31_62,m31_63,m31_66,m31_67,m31_68,m31_69u,nb0,nb1,ou_a,Option.toList_some,Option.toList_none,List.nil_append,List.cons_append]
  refine @f2 0 _ _ _ _ _ h1 ?_
  try simp [m31_0,m31_1,m31_4u,m31_5,m31_6,m31_9u,m31_10,m31_11,m31_12,m31_15,m31_16,m31_17,m31_18,m31_21i,m31_22,m31_23,m31_26i,m31_27,m31_28,m31_29,m31_32,m31_33,m31_34,m31_35,m31_38i,m31_39,m31_40,m31_43i,m31_44,m31_45,m31_46,m31_49,m31_50,m31_51,m31_52,m31_55i,m31_56,m31_57,m31_60i,m31_61,m31_62,m31_63,m31_66,m31_67,m31_68,m31_69u,nb0,nb1,ou_a,Option.toList_some,Option.toList_none,List.nil_append,List.cons_append]
  rw [vw]
  try simp [m31_0,m31_1,m31_4u,m31_5,m31_6,m31_9u,m31_10,m31_11,m31_12,m31_15,m31_16,m31_17,m31_18,m31_21i,m31_22,m31_23,m31_26i,m31_27,m31_28,m31_29,m31_32,m31_33,m31_34,m31_35,m31_38i,m31_39,m31_40,m31_43i,m31_44,m31_45,m31_46,m31_49,m31_50,m31_51,m31_52,m31_55i,m31_56,m31_57,m31_60i,m31_61,m31_62,m31_63,m31_66,m31_67,m31_68,m31_69u,nb0,nb1,ou_a,Option.toList_some,Option.toList_none,List.nil_append,List.cons_append]
  refine @f2 19 _ _ _ _ _ h2 ?_
  try simp [m31_0,m31_1,m31_4u,m31_5,m31_6,m31_9u,m31_10,m31_11,m31_12,m31_15,m31_16,m31_17,m31_18,m31_21i,m31_22,m31_23,m31_26i,m31_27,m31_28,m31_29,m31_32,m31_33,m31_34,m31_35,m31_38i,m31_39,m31_40,m31_43i,m31_44,m31_45,m31_46,m31_49,m31_50,m31_51,m31_52,m31_55i,m31_56,m31_57,m31_60i,m31_61,m31_62,m31_63,m31_66,m31_67,m31_68,m31_69u,nb0,nb1,ou_a,Option.toList_some,Option.toList_none,List.nil_append,List.cons_append]
  rw [← vw]
  try simp [m31_0,m31_1,m31_4u,m31_5,m31_6,m31_9u,m31_10,m31_11,m31_12,m31_15,m31_16,m31_17,m31_18,m31_21i,m31_22,m31_23,m31_26i,m31_27,m31_28,m31_29,m31_32,m31_33,m31_34,m31_35,m31_38i,m31_39,m31_40,m31_43i,m31_44,m31_45,m31_46,m31_49,m31_50,m31_51,m31_52,m31_55i,m31_56,m31_57,m31_60i,m31_61,m31_62,m31_63,m31_66,m31_67,m31_68,m31_69u,nb0,nb1,ou_a,Option.toList_some,Option.toList_none,List.nil_append,List.cons_append]
  refine @f3 0 _ _ _ _ _ h1 ?_
  try simp [m31_0,m31_1,m31_4u,m31_5,m31_6,m31_9u,m31_10,m31_11,m31_12,m31_15,m31_16,m31_17,m31_18,m31_21i,m31_22,m31_23,m31_26i,m31_27,m31_28,m31_29,m31_32,m31_33,m31_34,m31_35,m31_38i,m31_39,m31_40,m31_43i,m31_44,m31_45,m31_46,m31_49,m31_50,m31_51,m31_52,m31_55i,m31_56,m31_57,m31_60i,m31_61,m31_62,m31_63,m31_66,m31_67,m31_68,m31_69u,nb0,nb1,ou_a,Option.toList_some,Option.toList_none,List.nil_append,List.cons_append]
  rw [vw]
  try simp [m31_0,m31_1,m31_4u,m31_5,m31_6,m31_9u,m31_10,m31_11,m31_12,m31_15,m31_16,m31_17,m31_18,m31_21i,m31_22,m31_23,m31_26i,m31_27,m31_28,m31_29,m31_32,m31_33,m31_34,m31_35,m31_38i,m31_39,m31_40,m31_43i,m31_44,m31_45,m31_46,m31_49,m31_50,m31_51,m31_52,m31_55i,m31_56,m31_57,m31_60i,m31_61,m31_62,m31_63,m31_66,m31_67,m31_68,m31_69u,nb0,nb1,ou_a,Option.toList_some,Option.toList_none,List.nil_append,List.cons_append]
  refine @f3 19 _ _ _ _ _ h2 ?_
  try simp [m31_0,m31_1,m31_4u,m31_5,m31_6,m31_9u,m31_10,m31_11,m31_12,m31_15,m31_16,m31_17,m31_18,m31_21i,m31_22,m31_23,m31_26i,m31_27,m31_28,m31_29,m31_32,m31_33,m31_34,m31_35,m31_38i,m31_39,m31_40,m31_43i,m31_44,m31_45,m31_46,m31_49,m31_50,m31_51,m31_52,m31_55i,m31_56,m31_57,m31_60i,m31_61,m31_62,m31_63,m31_66,m31_67,m31_68,m31_69u,nb0,nb1,ou_a,Option.toList_some,Option.toList_none,List.nil_append,List.cons_append]
  rw [← vw]
  try simp [m31_0,m31_1,m31_4u,m31_5,m31_6,m31_9u,m31_10,m31_11,m31_12,m31_15,m31_16,m31_17,m31_18,m31_21i,m31_22,m31_23,m31_26i,m31_27,m31_28,m31_29,m31_32,m31_33,m31_34,m31_35,m31_38i,m31_39,m31_40,m31_43i,m31_44,m31_45,m31_46,m31_49,m31_50,m31_51,m31_52,m31_55i,m31_56,m31_57,m31_60i,m31_61,m31_62,m31_63,m31_66,m31_67,m31_68,m31_69u,nb0,nb1,ou_a,Option.toList_some,Option.toList_none,List.nil_append,List.cons_append]
  refine @f4 0 _ _ _ _ _ h1 ?_
  try simp [m31_0,m31_1,m31_4u,m31_5,m31_6,m31_9u,m31_10,m31_11,m31_12,m31_15,m31_16,m31_17,m31_18,m31_21i,m31_22,m31_23,m31_26i,m31_27,m31_28,m31_29,m31_32,m31_33,m31_34,m31_35,m31_38i,m31_39,m31_40,m31_43i,m31_44,m31_45,m31_46,m31_49,m31_50,m31_51,m31_52,m31_55i,m31_56,m31_57,m31_60i,m31_61,m31_62,m31_63,m31_66,m31_67,m31_68,m31_69u,nb0,nb1,ou_a,Option.toList_some,Option.toList_none,List.nil_append,List.cons_append]
  rw [vw]
  try simp [m31_0,m31_1,m31_4u,m31_5,m31_6,m31_9u,m31_10,m31_11,m31_12,m31_15,m31_16,m31_17,m31_18,m31_21i,m31_22,m31_23,m31_26i,m31_27,m31_28,m31_29,m31_32,m31_33,m31_34,m31_35,m31_38i,m31_39,m31_40,m31_43i,m31_44,m31_45,m31_46,m31_49,m31_50,m31_51,m31_52,m31_55i,m31_56,m31_57,m31_60i,m31_61,m31_62,m31_63,m31_66,m31_67,m31_68,m31_69u,nb0,nb1,ou_a,Option.toList_some,Option.toList_none,List.nil_append,List.cons_append]
  refine @f4 19 _ _ _ _ _ h2 ?_
  try simp [m31_0,m31_1,m31_4u,m31_5,m31_6,m31_9u,m31_10,m31_11,m31_12,m31_15,m31_16,m31_17,m31_18,m31_21i,m31_22,m31_23,m31_26i,m31_27,m31_28,m31_29,m31_32,m31_33,m31_34,m31_35,m31_38i,m31_39,m31_40,m31_43i,m31_44,m31_45,m31_46,m31_49,m31_50,m31_51,m31_52,m31_55i,m31_56,m31_57,m31_60i,m31_61,m31_62,m31_63,m31_66,m31_67,m31_68,m31_69u,nb0,nb1,ou_a,Option.toList_some,Option.toList_none,List.nil_append,List.cons_append]
  rw [← vw]
  try simp [m31_0,m31_1,m31_4u,m31_5,m31_6,m31_9u,m31_10,m31_11,m31_12,m31_15,m31_16,m31_17,m31_18,m31_21i,m31_22,m31_23,m31_26i,m31_27,m31_28,m31_29,m31_32,m31_33,m31_34,m31_35,m31_38i,m31_39,m31_40,m31_43i,m31_44,m31_45,m31_46,m31_49,m31_50,m31_51,m31_52,m31_55i,m31_56,m31_57,m31_60i,m31_61,m31_62,m31_63,m31_66,m31_67,m31_68,m31_69u,nb0,nb1,ou_a,Option.toList_some,Option.toList_none,List.nil_append,List.cons_append]
  exact sm1 h1 h2 hq 32 0 _ _ _ (by omega) okS_u
end Same
def S1 (X X' : XS) (sv a d k : Int32) : Prop:=∀ {vs : List Int32} {Q : Option Value→AHeap→Prop} {s t : Nat→Int32} {A T : Nat→List Int32} {j : Nat} (x1 : inB (nI (j + 1)) vs) (x2 : inB (nI (j + 2)) vs) (x3 : inB (nI (j + 3)) vs) (y1 : getA vs (nI (j + 1)) = a) (y2 : getA vs (nI (j + 2)) = d) (y3 : getA vs (nI (j + 3)) = k),E7 X s A→(∀ s' A',E7 X' s' A'→M30 138 [.val (.ref 1),.val (.ref 0),.val (.int (nI j)),.val (.int sv)] [] (put 1 [((FieldType.array .int,vs.map Value.int) : FieldType × List Value)] s' A' (tl t T)) Q)→M30 17 [.val (.ref 1),.val (.ref 0),.val (.int (nI j)),.val (.int sv)] [] (put 1 [((FieldType.array .int,vs.map Value.int) : FieldType × List Value)] s A (tl t T)) Q
def S2 (X X' : XS) (sv a d k : Int32) : Prop:=∀ {vs : List Int32} {Q : Option Value→AHeap→Prop} {s t : Nat→Int32} {A T : Nat→List Int32} {j : Nat} (x1 : inB (nI (j + 1)) vs) (x2 : inB (nI (j + 2)) vs) (x3 : inB (nI (j + 3)) vs) (y1 : getA vs (nI (j + 1)) = a) (y2 : getA vs (nI (j + 2)) = d) (y3 : getA vs (nI (j + 3)) = k),E7 X t T→(∀ t' T',E7 X' t' T'→M30 138 [.val (.ref 20),.val (.ref 0),.val (.int (nI j)),.val (.int sv)] [] (put 1 [((FieldType.array .int,vs.map Value.int) : FieldType × List Value)] s A (tl t' T')) Q)→M30 17 [.val (.ref 20),.val (.ref 0),.val (.int (nI j)),.val (.int sv)] [] (put 1 [((FieldType.array .int,vs.map Value.int) : FieldType × List Value)] s A (tl t T)) Q
set_option maxRecDepth 1000000 in
set_option maxHeartbeats 20000000 in
theorem stp (X : XS) (sv a d k : Int32) : ∃ X',S1 X X' sv a d k∧S2 X X' sv a d k:=by
  by_cases a0 : sv = 0
  · subst a0
    obtain ⟨X',v,f⟩:=avX X a d k
    refine ⟨X',?_,?_⟩
    · intro vs Q s t A T j x1 x2 x3 y1 y2 y3 h hq
      have n2 : nI j + 2 = nI (j + 2):=nI_add j 2
      have n3 : nI j + 3 = nI (j + 3):=nI_add j 3
      simp [x1,x2,x3,y1,y2,y3,nI_1,n2,n3,m30_17,m30_18,m30_21,m30_22,m30_23,m30_24,m30_25,m30_26,m30_26p,m30_27,m30_28,m30_29,m30_30,m30_31,m30_31p,m30_32,m30_33,m30_34,m30_35,m30_36,m30_36p,m30_37,m30_40,m30_41,m30_44,m30_45,m30_46,m30_49,m30_50,m30_52,m30_55,m30_56,m30_57,m30_58,m30_59,m30_60,m30_60p,m30_61,m30_62,m30_63,m30_64,m30_65,m30_65p,m30_66,m30_67,m30_68,m30_69,m30_70,m30_70p,m30_71,m30_74,m30_75,m30_78,m30_79,m30_80,m30_83,m30_84,m30_87,m30_88,m30_91,m30_92,m30_93,m30_96,m30_97,m30_98,m30_99,m30_100,m30_101,m30_101p,m30_102,m30_105,m30_106,m30_109,m30_110,m30_111,m30_114,m30_115,m30_118,m30_121,m30_122,m30_123,m30_126,m30_127,m30_130,m30_131,m30_134,m30_135,nb0,nb1,ou_a,Option.toList_some,Option.toList_none,List.nil_append,List.cons_append]
      refine @f 0 _ _ _ _ _ h (fun s' A' h' => ?_)
      simp [x1,x2,x3,y1,y2,y3,nI_1,n2,n3,m30_17,m30_18,m30_21,m30_22,m30_23,m30_24,m30_25,m30_26,m30_26p,m30_27,m30_28,m30_29,m30_30,m30_31,m30_31p,m30_32,m30_33,m30_34,m30_35,m30_36,m30_36p,m30_37,m30_40,m30_41,m30_44,m30_45,m30_46,m30_49,m30_50,m30_52,m30_55,m30_56,m30_57,m30_58,m30_59,m30_60,m30_60p,m30_61,m30_62,m30_63,m30_64,m30_65,m30_65p,m30_66,m30_67,m30_68,m30_69,m30_70,m30_70p,m30_71,m30_74,m30_75,m30_78,m30_79,m30_80,m30_83,m30_84,m30_87,m30_88,m30_91,m30_92,m30_93,m30_96,m30_97,m30_98,m30_99,m30_100,m30_101,m30_101p,m30_102,m30_105,m30_106,m30_109,m30_110,m30_111,m30_114,m30_115,m30_118,m30_121,m30_122,m30_123,m30_126,m30_127,m30_130,m30_131,m30_134,m30_135,nb0,nb1,ou_a,Option.toList_some,Option.toList_none,List.nil_append,List.cons_append]
      exact hq s' A' h'
    · intro vs Q s t A T j x1 x2 x3 y1 y2 y3 h hq
      have n2 : nI j + 2 = nI (j + 2):=nI_add j 2
      have n3 : nI j + 3 = nI (j + 3):=nI_add j 3
      simp [x1,x2,x3,y1,y2,y3,nI_1,n2,n3,m30_17,m30_18,m30_21,m30_22,m30_23,m30_24,m30_25,m30_26,m30_26p,m30_27,m30_28,m30_29,m30_30,m30_31,m30_31p,m30_32,m30_33,m30_34,m30_35,m30_36,m30_36p,m30_37,m30_40,m30_41,m30_44,m30_45,m30_46,m30_49,m30_50,m30_52,m30_55,m30_56,m30_57,m30_58,m30_59,m30_60,m30_60p,m30_61,m30_62,m30_63,m30_64,m30_65,m30_65p,m30_66,m30_67,m30_68,m30_69,m30_70,m30_70p,m30_71,m30_74,m30_75,m30_78,m30_79,m30_80,m30_83,m30_84,m30_87,m30_88,m30_91,m30_92,m30_93,m30_96,m30_97,m30_98,m30_99,m30_100,m30_101,m30_101p,m30_102,m30_105,m30_106,m30_109,m30_110,m30_111,m30_114,m30_115,m30_118,m30_121,m30_122,m30_123,m30_126,m30_127,m30_130,m30_131,m30_134,m30_135,nb0,nb1,ou_a,Option.toList_some,Option.toList_none,List.nil_append,List.cons_append]
      rw [vw]
      simp [x1,x2,x3,y1,y2,y3,nI_1,n2,n3,m30_17,m30_18,m30_21,m30_22,m30_23,m30_24,m30_25,m30_26,m30_26p,m30_27,m30_28,m30_29,m30_30,m30_31,m30_31p,m30_32,m30_33,m30_34,m30_35,m30_36,m30_36p,m30_37,m30_40,m30_41,m30_44,m30_45,m30_46,m30_49,m30_50,m30_52,m30_55,m30_56,m30_57,m30_58,m30_59,m30_60,m30_60p,m30_61,m30_62,m30_63,m30_64,m30_65,m30_65p,m30_66,m30_67,m30_68,m30_69,m30_70,m30_70p,m30_71,m30_74,m30_75,m30_78,m30_79,m30_80,m30_83,m30_84,m30_87,m30_88,m30_91,m30_92,m30_93,m30_96,m30_97,m30_98,m30_99,m30_100,m30_101,m30_101p,m30_102,m30_105,m30_106,m30_109,m30_110,m30_111,m30_114,m30_115,m30_118,m30_121,m30_122,m30_123,m30_126,m30_127,m30_130,m30_131,m30_134,m30_135,nb0,nb1,ou_a,Option.toList_some,Option.toList_none,List.nil_append,List.cons_append]
      refine @f 19 _ _ _ _ _ h (fun t' T' h' => ?_)
      simp [x1,x2,x3,y1,y2,y3,nI_1,n2,n3,m30_17,m30_18,m30_21,m30_22,m30_23,m30_24,m30_25,m30_26,m30_26p,m30_27,m30_28,m30_29,m30_30,m30_31,m30_31p,m30_32,m30_33,m30_34,m30_35,m30_36,m30_36p,m30_37,m30_40,m30_41,m30_44,m30_45,m30_46,m30_49,m30_50,m30_52,m30_55,m30_56,m30_57,m30_58,m30_59,m30_60,m30_60p,m30_61,m30_62,m30_63,m30_64,m30_65,m30_65p,m30_66,m30_67,m30_68,m30_69,m30_70,m30_70p,m30_71,m30_74,m30_75,m30_78,m30_79,m30_80,m30_83,m30_84,m30_87,m30_88,m30_91,m30_92,m30_93,m30_96,m30_97,m30_98,m30_99,m30_100,m30_101,m30_101p,m30_102,m30_105,m30_106,m30_109,m30_110,m30_111,m30_114,m30_115,m30_118,m30_121,m30_122,m30_123,m30_126,m30_127,m30_130,m30_131,m30_134,m30_135,nb0,nb1,ou_a,Option.toList_some,Option.toList_none,List.nil_append,List.cons_append]
      rw [← vw]
      exact hq t' T' h'
  by_cases a1 : sv = 1
  · subst a1
    obtain ⟨X',v,f⟩:=aeX X a d k
    refine ⟨X',?_,?_⟩
    · intro vs Q s t A T j x1 x2 x3 y1 y2 y3 h hq
      have n2 : nI j + 2 = nI (j + 2):=nI_add j 2
      have n3 : nI j + 3 = nI (j + 3):=nI_add j 3
      simp [x1,x2,x3,y1,y2,y3,nI_1,n2,n3,m30_17,m30_18,m30_21,m30_22,m30_23,m30_24,m30_25,m30_26,m30_26p,m30_27,m30_28,m30_29,m30_30,m30_31,m30_31p,m30_32,m30_33,m30_34,m30_35,m30_36,m30_36p,m30_37,m30_40,m30_41,m30_44,m30_45,m30_46,m30_49,m30_50,m30_52,m30_55,m30_56,m30_57,m30_58,m30_59,m30_60,m30_60p,m30_61,m30_62,m30_63,m30_64,m30_65,m30_65p,m30_66,m30_67,m30_68,m30_69,m30_70,m30_70p,m30_71,m30_74,m30_75,m30_78,m30_79,m30_80,m30_83,m30_84,m30_87,m30_88,m30_91,m30_92,m30_93,m30_96,m30_97,m30_98,m30_99,m30_100,m30_101,m30_101p,m30_102,m30_105,m30_106,m30_109,m30_110,m30_111,m30_114,m30_115,m30_118,m30_121,m30_122,m30_123,m30_126,m30_127,m30_130,m30_131,m30_134,m30_135,nb0,nb1,ou_a,Option.toList_some,Option.toList_none,List.nil_append,List.cons_append]
      refine @f 0 _ _ _ _ _ h (fun s' A' h' => ?_)
      simp [x1,x2,x3,y1,y2,y3,nI_1,n2,n3,m30_17,m30_18,m30_21,m30_22,m30_23,m30_24,m30_25,m30_26,m30_26p,m30_27,m30_28,m30_29,m30_30,m30_31,m30_31p,m30_32,m30_33,m30_34,m30_35,m30_36,m30_36p,m30_37,m30_40,m30_41,m30_44,m30_45,m30_46,m30_49,m30_50,m30_52,m30_55,m30_56,m30_57,m30_58,m30_59,m30_60,m30_60p,m30_61,m30_62,m30_63,m30_64,m30_65,m30_65p,m30_66,m30_67,m30_68,m30_69,m30_70,m30_70p,m30_71,m30_74,m30_75,m30_78,m30_79,m30_80,m30_83,m30_84,m30_87,m30_88,m30_91,m30_92,m30_93,m30_96,m30_97,m30_98,m30_99,m30_100,m30_101,m30_101p,m30_102,m30_105,m30_106,m30_109,m30_110,m30_111,m30_114,m30_115,m30_118,m30_121,m30_122,m30_123,m30_126,m30_127,m30_130,m30_131,m30_134,m30_135,nb0,nb1,ou_a,Option.toList_some,Option.toList_none,List.nil_append,List.cons_append]
      exact hq s' A' h'
    · intro vs Q s t A T j x1 x2 x3 y1 y2 y3 h hq
      have n2 : nI j + 2 = nI (j + 2):=nI_add j 2
      have n3 : nI j + 3 = nI (j + 3):=nI_add j 3
      simp [x1,x2,x3,y1,y2,y3,nI_1,n2,n3,m30_17,m30_18,m30_21,m30_22,m30_23,m30_24,m30_25,m30_26,m30_26p,m30_27,m30_28,m30_29,m30_30,m30_31,m30_31p,m30_32,m30_33,m30_34,m30_35,m30_36,m30_36p,m30_37,m30_40,m30_41,m30_44,m30_45,m30_46,m30_49,m30_50,m30_52,m30_55,m30_56,m30_57,m30_58,m30_59,m30_60,m30_60p,m30_61,m30_62,m30_63,m30_64,m30_65,m30_65p,m30_66,m30_67,m30_68,m30_69,m30_70,m30_70p,m30_71,m30_74,m30_75,m30_78,m30_79,m30_80,m30_83,m30_84,m30_87,m30_88,m30_91,m30_92,m30_93,m30_96,m30_97,m30_98,m30_99,m30_100,m30_101,m30_101p,m30_102,m30_105,m30_106,m30_109,m30_110,m30_111,m30_114,m30_115,m30_118,m30_121,m30_122,m30_123,m30_126,m30_127,m30_130,m30_131,m30_134,m30_135,nb0,nb1,ou_a,Option.toList_some,Option.toList_none,List.nil_append,List.cons_append]
      rw [vw]
      simp [x1,x2,x3,y1,y2,y3,nI_1,n2,n3,m30_17,m30_18,m30_21,m30_22,m30_23,m30_24,m30_25,m30_26,m30_26p,m30_27,m30_28,m30_29,m30_30,m30_31,m30_31p,m30_32,m30_33,m30_34,m30_35,m30_36,m30_36p,m30_37,m30_40,m30_41,m30_44,m30_45,m30_46,m30_49,m30_50,m30_52,m30_55,m30_56,m30_57,m30_58,m30_59,m30_60,m30_60p,m30_61,m30_62,m30_63,m30_64,m30_65,m30_65p,m30_66,m30_67,m30_68,m30_69,m30_70,m30_70p,m30_71,m30_74,m30_75,m30_78,m30_79,m30_80,m30_83,m30_84,m30_87,m30_88,m30_91,m30_92,m30_93,m30_96,m30_97,m30_98,m30_99,m30_100,m30_101,m30_101p,m30_102,m30_105,m30_106,m30_109,m30_110,m30_111,m30_114,m30_115,m30_118,m30_121,m30_122,m30_123,m30_126,m30_127,m30_130,m30_131,m30_134,m30_135,nb0,nb1,ou_a,Option.toList_some,Option.toList_none,List.nil_append,List.cons_append]
      refine @f 19 _ _ _ _ _ h (fun t' T' h' => ?_)
      simp [x1,x2,x3,y1,y2,y3,nI_1,n2,n3,m30_17,m30_18,m30_21,m30_22,m30_23,m30_24,m30_25,m30_26,m30_26p,m30_27,m30_28,m30_29,m30_30,m30_31,m30_31p,m30_32,m30_33,m30_34,m30_35,m30_36,m30_36p,m30_37,m30_40,m30_41,m30_44,m30_45,m30_46,m30_49,m30_50,m30_52,m30_55,m30_56,m30_57,m30_58,m30_59,m30_60,m30_60p,m30_61,m30_62,m30_63,m30_64,m30_65,m30_65p,m30_66,m30_67,m30_68,m30_69,m30_70,m30_70p,m30_71,m30_74,m30_75,m30_78,m30_79,m30_80,m30_83,m30_84,m30_87,m30_88,m30_91,m30_92,m30_93,m30_96,m30_97,m30_98,m30_99,m30_100,m30_101,m30_101p,m30_102,m30_105,m30_106,m30_109,m30_110,m30_111,m30_114,m30_115,m30_118,m30_121,m30_122,m30_123,m30_126,m30_127,m30_130,m30_131,m30_134,m30_135,nb0,nb1,ou_a,Option.toList_some,Option.toList_none,List.nil_append,List.cons_append]
      rw [← vw]
      exact hq t' T' h'
  by_cases a7 : sv = 7
  · subst a7
    obtain ⟨X',v,f⟩:=aeX X a d k
    refine ⟨X',?_,?_⟩
    · intro vs Q s t A T j x1 x2 x3 y1 y2 y3 h hq
      have n2 : nI j + 2 = nI (j + 2):=nI_add j 2
      have n3 : nI j + 3 = nI (j + 3):=nI_add j 3
      simp [x1,x2,x3,y1,y2,y3,nI_1,n2,n3,m30_17,m30_18,m30_21,m30_22,m30_23,m30_24,m30_25,m30_26,m30_26p,m30_27,m30_28,m30_29,m30_30,m30_31,m30_31p,m30_32,m30_33,m30_34,m30_35,m30_36,m30_36p,m30_37,m30_40,m30_41,m30_44,m30_45,m30_46,m30_49,m30_50,m30_52,m30_55,m30_56,m30_57,m30_58,m30_59,m30_60,m30_60p,m30_61,m30_62,m30_63,m30_64,m30_65,m30_65p,m30_66,m30_67,m30_68,m30_69,m30_70,m30_70p,m30_71,m30_74,m30_75,m30_78,m30_79,m30_80,m30_83,m30_84,m30_87,m30_88,m30_91,m30_92,m30_93,m30_96,m30_97,m30_98,m30_99,m30_100,m30_101,m30_101p,m30_102,m30_105,m30_106,m30_109,m30_110,m30_111,m30_114,m30_115,m30_118,m30_121,m30_122,m30_123,m30_126,m30_127,m30_130,m30_131,m30_134,m30_135,nb0,nb1,ou_a,Option.toList_some,Option.toList_none,List.nil_append,List.cons_append]
      refine @f 0 _ _ _ _ _ h (fun s' A' h' => ?_)
      simp [x1,x2,x3,y1,y2,y3,nI_1,n2,n3,m30_17,m30_18,m30_21,m30_22,m30_23,m30_24,m30_25,m30_26,m30_26p,m30_27,m30_28,m30_29,m30_30,m30_31,m30_31p,m30_32,m30_33,m30_34,m30_35,m30_36,m30_36p,m30_37,m30_40,m30_41,m30_44,m30_45,m30_46,m30_49,m30_50,m30_52,m30_55,m30_56,m30_57,m30_58,m30_59,m30_60,m30_60p,m30_61,m30_62,m30_63,m30_64,m30_65,m30_65p,m30_66,m30_67,m30_68,m30_69,m30_70,m30_70p,m30_71,m30_74,m30_75,m30_78,m30_79,m30_80,m30_83,m30_84,m30_87,m30_88,m30_91,m30_92,m30_93,m30_96,m30_97,m30_98,m30_99,m30_100,m30_101,m30_101p,m30_102,m30_105,m30_106,m30_109,m30_110,m30_111,m30_114,m30_115,m30_118,m30_121,m30_122,m30_123,m30_126,m30_127,m30_130,m30_131,m30_134,m30_135,nb0,nb1,ou_a,Option.toList_some,Option.toList_none,List.nil_append,List.cons_append]
      exact hq s' A' h'
    · intro vs Q s t A T j x1 x2 x3 y1 y2 y3 h hq
      have n2 : nI j + 2 = nI (j + 2):=nI_add j 2
      have n3 : nI j + 3 = nI (j + 3):=nI_add j 3
      simp [x1,x2,x3,y1,y2,y3,nI_1,n2,n3,m30_17,m30_18,m30_21,m30_22,m30_23,m30_24,m30_25,m30_26,m30_26p,m30_27,m30_28,m30_29,m30_30,m30_31,m30_31p,m30_32,m30_33,m30_34,m30_35,m30_36,m30_36p,m30_37,m30_40,m30_41,m30_44,m30_45,m30_46,m30_49,m30_50,m30_52,m30_55,m30_56,m30_57,m30_58,m30_59,m30_60,m30_60p,m30_61,m30_62,m30_63,m30_64,m30_65,m30_65p,m30_66,m30_67,m30_68,m30_69,m30_70,m30_70p,m30_71,m30_74,m30_75,m30_78,m30_79,m30_80,m30_83,m30_84,m30_87,m30_88,m30_91,m30_92,m30_93,m30_96,m30_97,m30_98,m30_99,m30_100,m30_101,m30_101p,m30_102,m30_105,m30_106,m30_109,m30_110,m30_111,m30_114,m30_115,m30_118,m30_121,m30_122,m30_123,m30_126,m30_127,m30_130,m30_131,m30_134,m30_135,nb0,nb1,ou_a,Option.toList_some,Option.toList_none,List.nil_append,List.cons_append]
      rw [vw]
      simp [x1,x2,x3,y1,y2,y3,nI_1,n2,n3,m30_17,m30_18,m30_21,m30_22,m30_23,m30_24,m30_25,m30_26,m30_26p,m30_27,m30_28,m30_29,m30_30,m30_31,m30_31p,m30_32,m30_33,m30_34,m30_35,m30_36,m30_36p,m30_37,m30_40,m30_41,m30_44,m30_45,m30_46,m30_49,m30_50,m30_52,m30_55,m30_56,m30_57,m30_58,m30_59,m30_60,m30_60p,m30_61,m30_62,m30_63,m30_64,m30_65,m30_65p,m30_66,m30_67,m30_68,m30_69,m30_70,m30_70p,m30_71,m30_74,m30_75,m30_78,m30_79,m30_80,m30_83,m30_84,m30_87,m30_88,m30_91,m30_92,m30_93,m30_96,m30_97,m30_98,m30_99,m30_100,m30_101,m30_101p,m30_102,m30_105,m30_106,m30_109,m30_110,m30_111,m30_114,m30_115,m30_118,m30_121,m30_122,m30_123,m30_126,m30_127,m30_130,m30_131,m30_134,m30_135,nb0,nb1,ou_a,Option.toList_some,Option.toList_none,List.nil_append,List.cons_append]
      refine @f 19 _ _ _ _ _ h (fun t' T' h' => ?_)
      simp [x1,x2,x3,y1,y2,y3,nI_1,n2,n3,m30_17,m30_18,m30_21,m30_22,m30_23,m30_24,m30_25,m30_26,m30_26p,m30_27,m30_28,m30_29,m30_30,m30_31,m30_31p,m30_32,m30_33,m30_34,m30_35,m30_36,m30_36p,m30_37,m30_40,m30_41,m30_44,m30_45,m30_46,m30_49,m30_50,m30_52,m30_55,m30_56,m30_57,m30_58,m30_59,m30_60,m30_60p,m30_61,m30_62,m30_63,m30_64,m30_65,m30_65p,m30_66,m30_67,m30_68,m30_69,m30_70,m30_70p,m30_71,m30_74,m30_75,m30_78,m30_79,m30_80,m30_83,m30_84,m30_87,m30_88,m30_91,m30_92,m30_93,m30_96,m30_97,m30_98,m30_99,m30_100,m30_101,m30_101p,m30_102,m30_105,m30_106,m30_109,m30_110,m30_111,m30_114,m30_115,m30_118,m30_121,m30_122,m30_123,m30_126,m30_127,m30_130,m30_131,m30_134,m30_135,nb0,nb1,ou_a,Option.toList_some,Option.toList_none,List.nil_append,List.cons_append]
      rw [← vw]
      exact hq t' T' h'
  by_cases a2 : sv = 2
  · subst a2
    obtain ⟨X',v,f⟩:=rtX X
    refine ⟨X',?_,?_⟩
    · intro vs Q s t A T j x1 x2 x3 y1 y2 y3 h hq
      have n2 : nI j + 2 = nI (j + 2):=nI_add j 2
      have n3 : nI j + 3 = nI (j + 3):=nI_add j 3
      simp [x1,x2,x3,y1,y2,y3,nI_1,n2,n3,m30_17,m30_18,m30_21,m30_22,m30_23,m30_24,m30_25,m30_26,m30_26p,m30_27,m30_28,m30_29,m30_30,m30_31,m30_31p,m30_32,m30_33,m30_34,m30_35,m30_36,m30_36p,m30_37,m30_40,m30_41,m30_44,m30_45,m30_46,m30_49,m30_50,m30_52,m30_55,m30_56,m30_57,m30_58,m30_59,m30_60,m30_60p,m30_61,m30_62,m30_63,m30_64,m30_65,m30_65p,m30_66,m30_67,m30_68,m30_69,m30_70,m30_70p,m30_71,m30_74,m30_75,m30_78,m30_79,m30_80,m30_83,m30_84,m30_87,m30_88,m30_91,m30_92,m30_93,m30_96,m30_97,m30_98,m30_99,m30_100,m30_101,m30_101p,m30_102,m30_105,m30_106,m30_109,m30_110,m30_111,m30_114,m30_115,m30_118,m30_121,m30_122,m30_123,m30_126,m30_127,m30_130,m30_131,m30_134,m30_135,nb0,nb1,ou_a,Option.toList_some,Option.toList_none,List.nil_append,List.cons_append]
      refine @f 0 _ _ _ _ _ h (fun s' A' h' => ?_)
      simp [x1,x2,x3,y1,y2,y3,nI_1,n2,n3,m30_17,m30_18,m30_21,m30_22,m30_23,m30_24,m30_25,m30_26,m30_26p,m30_27,m30_28,m30_29,m30_30,m30_31,m30_31p,m30_32,m30_33,m30_34,m30_35,m30_36,m30_36p,m30_37,m30_40,m30_41,m30_44,m30_45,m30_46,m30_49,m30_50,m30_52,m30_55,m30_56,m30_57,m30_58,m30_59,m30_60,m30_60p,m30_61,m30_62,m30_63,m30_64,m30_65,m30_65p,m30_66,m30_67,m30_68,m30_69,m30_70,m30_70p,m30_71,m30_74,m30_75,m30_78,m30_79,m30_80,m30_83,m30_84,m30_87,m30_88,m30_91,m30_92,m30_93,m30_96,m30_97,m30_98,m30_99,m30_100,m30_101,m30_101p,m30_102,m30_105,m30_106,m30_109,m30_110,m30_111,m30_114,m30_115,m30_118,m30_121,m30_122,m30_123,m30_126,m30_127,m30_130,m30_131,m30_134,m30_135,nb0,nb1,ou_a,Option.toList_some,Option.toList_none,List.nil_append,List.cons_append]
      exact hq s' A' h'
    · intro vs Q s t A T j x1 x2 x3 y1 y2 y3 h hq
      have n2 : nI j + 2 = nI (j + 2):=nI_add j 2
      have n3 : nI j + 3 = nI (j + 3):=nI_add j 3
      simp [x1,x2,x3,y1,y2,y3,nI_1,n2,n3,m30_17,m30_18,m30_21,m30_22,m30_23,m30_24,m30_25,m30_26,m30_26p,m30_27,m30_28,m30_29,m30_30,m30_31,m30_31p,m30_32,m30_33,m30_34,m30_35,m30_36,m30_36p,m30_37,m30_40,m30_41,m30_44,m30_45,m30_46,m30_49,m30_50,m30_52,m30_55,m30_56,m30_57,m30_58,m30_59,m30_60,m30_60p,m30_61,m30_62,m30_63,m30_64,m30_65,m30_65p,m30_66,m30_67,m30_68,m30_69,m30_70,m30_70p,m30_71,m30_74,m30_75,m30_78,m30_79,m30_80,m30_83,m30_84,m30_87,m30_88,m30_91,m30_92,m30_93,m30_96,m30_97,m30_98,m30_99,m30_100,m30_101,m30_101p,m30_102,m30_105,m30_106,m30_109,m30_110,m30_111,m30_114,m30_115,m30_118,m30_121,m30_122,m30_123,m30_126,m30_127,m30_130,m30_131,m30_134,m30_135,nb0,nb1,ou_a,Option.toList_some,Option.toList_none,List.nil_append,List.cons_append]
      rw [vw]
      simp [x1,x2,x3,y1,y2,y3,nI_1,n2,n3,m30_17,m30_18,m30_21,m30_22,m30_23,m30_24,m30_25,m30_26,m30_26p,m30_27,m30_28,m30_29,m30_30,m30_31,m30_31p,m30_32,m30_33,m30_34,m30_35,m30_36,m30_36p,m30_37,m30_40,m30_41,m30_44,m30_45,m30_46,m30_49,m30_50,m30_52,m30_55,m30_56,m30_57,m30_58,m30_59,m30_60,m30_60p,m30_61,m30_62,m30_63,m30_64,m30_65,m30_65p,m30_66,m30_67,m30_68,m30_69,m30_70,m30_70p,m30_71,m30_74,m30_75,m30_78,m30_79,m30_80,m30_83,m30_84,m30_87,m30_88,m30_91,m30_92,m30_93,m30_96,m30_97,m30_98,m30_99,m30_100,m30_101,m30_101p,m30_102,m30_105,m30_106,m30_109,m30_110,m30_111,m30_114,m30_115,m30_118,m30_121,m30_122,m30_123,m30_126,m30_127,m30_130,m30_131,m30_134,m30_135,nb0,nb1,ou_a,Option.toList_some,Option.toList_none,List.nil_append,List.cons_append]
      refine @f 19 _ _ _ _ _ h (fun t' T' h' => ?_)
      simp [x1,x2,x3,y1,y2,y3,nI_1,n2,n3,m30_17,m30_18,m30_21,m30_22,m30_23,m30_24,m30_25,m30_26,m30_26p,m30_27,m30_28,m30_29,m30_30,m30_31,m30_31p,m30_32,m30_33,m30_34,m30_35,m30_36,m30_36p,m30_37,m30_40,m30_41,m30_44,m30_45,m30_46,m30_49,m30_50,m30_52,m30_55,m30_56,m30_57,m30_58,m30_59,m30_60,m30_60p,m30_61,m30_62,m30_63,m30_64,m30_65,m30_65p,m30_66,m30_67,m30_68,m30_69,m30_70,m30_70p,m30_71,m30_74,m30_75,m30_78,m30_79,m30_80,m30_83,m30_84,m30_87,m30_88,m30_91,m30_92,m30_93,m30_96,m30_97,m30_98,m30_99,m30_100,m30_101,m30_101p,m30_102,m30_105,m30_106,m30_109,m30_110,m30_111,m30_114,m30_115,m30_118,m30_121,m30_122,m30_123,m30_126,m30_127,m30_130,m30_131,m30_134,m30_135,nb0,nb1,ou_a,Option.toList_some,Option.toList_none,List.nil_append,List.cons_append]
      rw [← vw]
      exact hq t' T' h'
  by_cases a3 : sv = 3
  · subst a3
    obtain ⟨X',v,f⟩:=fdX X a
    refine ⟨X',?_,?_⟩
    · intro vs Q s t A T j x1 x2 x3 y1 y2 y3 h hq
      have n2 : nI j + 2 = nI (j + 2):=nI_add j 2
      have n3 : nI j + 3 = nI (j + 3):=nI_add j 3
      simp [x1,x2,x3,y1,y2,y3,nI_1,n2,n3,m30_17,m30_18,m30_21,m30_22,m30_23,m30_24,m30_25,m30_26,m30_26p,m30_27,m30_28,m30_29,m30_30,m30_31,m30_31p,m30_32,m30_33,m30_34,m30_35,m30_36,m30_36p,m30_37,m30_40,m30_41,m30_44,m30_45,m30_46,m30_49,m30_50,m30_52,m30_55,m30_56,m30_57,m30_58,m30_59,m30_60,m30_60p,m30_61,m30_62,m30_63,m30_64,m30_65,m30_65p,m30_66,m30_67,m30_68,m30_69,m30_70,m30_70p,m30_71,m30_74,m30_75,m30_78,m30_79,m30_80,m30_83,m30_84,m30_87,m30_88,m30_91,m30_92,m30_93,m30_96,m30_97,m30_98,m30_99,m30_100,m30_101,m30_101p,m30_102,m30_105,m30_106,m30_109,m30_110,m30_111,m30_114,m30_115,m30_118,m30_121,m30_122,m30_123,m30_126,m30_127,m30_130,m30_131,m30_134,m30_135,nb0,nb1,ou_a,Option.toList_some,Option.toList_none,List.nil_append,List.cons_append]
      refine @f 0 _ _ _ _ _ h (fun s' A' h' => ?_)
      simp [x1,x2,x3,y1,y2,y3,nI_1,n2,n3,m30_17,m30_18,m30_21,m30_22,m30_23,m30_24,m30_25,m30_26,m30_26p,m30_27,m30_28,m30_29,m30_30,m30_31,m30_31p,m30_32,m30_33,m30_34,m30_35,m30_36,m30_36p,m30_37,m30_40,m30_41,m30_44,m30_45,m30_46,m30_49,m30_50,m30_52,m30_55,m30_56,m30_57,m30_58,m30_59,m30_60,m30_60p,m30_61,m30_62,m30_63,m30_64,m30_65,m30_65p,m30_66,m30_67,m30_68,m30_69,m30_70,m30_70p,m30_71,m30_74,m30_75,m30_78,m30_79,m30_80,m30_83,m30_84,m30_87,m30_88,m30_91,m30_92,m30_93,m30_96,m30_97,m30_98,m30_99,m30_100,m30_101,m30_101p,m30_102,m30_105,m30_106,m30_109,m30_110,m30_111,m30_114,m30_115,m30_118,m30_121,m30_122,m30_123,m30_126,m30_127,m30_130,m30_131,m30_134,m30_135,nb0,nb1,ou_a,Option.toList_some,Option.toList_none,List.nil_append,List.cons_append]
      exact hq s' A' h'
    · intro vs Q s t A T j x1 x2 x3 y1 y2 y3 h hq
      have n2 : nI j + 2 = nI (j + 2):=nI_add j 2
      have n3 : nI j + 3 = nI (j + 3):=nI_add j 3
      simp [x1,x2,x3,y1,y2,y3,nI_1,n2,n3,m30_17,m30_18,m30_21,m30_22,m30_23,m30_24,m30_25,m30_26,m30_26p,m30_27,m30_28,m30_29,m30_30,m30_31,m30_31p,m30_32,m30_33,m30_34,m30_35,m30_36,m30_36p,m30_37,m30_40,m30_41,m30_44,m30_45,m30_46,m30_49,m30_50,m30_52,m30_55,m30_56,m30_57,m30_58,m30_59,m30_60,m30_60p,m30_61,m30_62,m30_63,m30_64,m30_65,m30_65p,m30_66,m30_67,m30_68,m30_69,m30_70,m30_70p,m30_71,m30_74,m30_75,m30_78,m30_79,m30_80,m30_83,m30_84,m30_87,m30_88,m30_91,m30_92,m30_93,m30_96,m30_97,m30_98,m30_99,m30_100,m30_101,m30_101p,m30_102,m30_105,m30_106,m30_109,m30_110,m30_111,m30_114,m30_115,m30_118,m30_121,m30_122,m30_123,m30_126,m30_127,m30_130,m30_131,m30_134,m30_135,nb0,nb1,ou_a,Option.toList_some,Option.toList_none,List.nil_append,List.cons_append]
      rw [vw]
      simp [x1,x2,x3,y1,y2,y3,nI_1,n2,n3,m30_17,m30_18,m30_21,m30_22,m30_23,m30_24,m30_25,m30_26,m30_26p,m30_27,m30_28,m30_29,m30_30,m30_31,m30_31p,m30_32,m30_33,m30_34,m30_35,m30_36,m30_36p,m30_37,m30_40,m30_41,m30_44,m30_45,m30_46,m30_49,m30_50,m30_52,m30_55,m30_56,m30_57,m30_58,m30_59,m30_60,m30_60p,m30_61,m30_62,m30_63,m30_64,m30_65,m30_65p,m30_66,m30_67,m30_68,m30_69,m30_70,m30_70p,m30_71,m30_74,m30_75,m30_78,m30_79,m30_80,m30_83,m30_84,m30_87,m30_88,m30_91,m30_92,m30_93,m30_96,m30_97,m30_98,m30_99,m30_100,m30_101,m30_101p,m30_102,m30_105,m30_106,m30_109,m30_110,m30_111,m30_114,m30_115,m30_118,m30_121,m30_122,m30_123,m30_126,m30_127,m30_130,m30_131,m30_134,m30_135,nb0,nb1,ou_a,Option.toList_some,Option.toList_none,List.nil_append,List.cons_append]
      refine @f 19 _ _ _ _ _ h (fun t' T' h' => ?_)
      simp [x1,x2,x3,y1,y2,y3,nI_1,n2,n3,m30_17,m30_18,m30_21,m30_22,m30_23,m30_24,m30_25,m30_26,m30_26p,m30_27,m30_28,m30_29,m30_30,m30_31,m30_31p,m30_32,m30_33,m30_34,m30_35,m30_36,m30_36p,m30_37,m30_40,m30_41,m30_44,m30_45,m30_46,m30_49,m30_50,m30_52,m30_55,m30_56,m30_57,m30_58,m30_59,m30_60,m30_60p,m30_61,m30_62,m30_63,m30_64,m30_65,m30_65p,m30_66,m30_67,m30_68,m30_69,m30_70,m30_70p,m30_71,m30_74,m30_75,m30_78,m30_79,m30_80,m30_83,m30_84,m30_87,m30_88,m30_91,m30_92,m30_93,m30_96,m30_97,m30_98,m30_99,m30_100,m30_101,m30_101p,m30_102,m30_105,m30_106,m30_109,m30_110,m30_111,m30_114,m30_115,m30_118,m30_121,m30_122,m30_123,m30_126,m30_127,m30_130,m30_131,m30_134,m30_135,nb0,nb1,ou_a,Option.toList_some,Option.toList_none,List.nil_append,List.cons_append]
      rw [← vw]
      exact hq t' T' h'
  by_cases a4 : sv = 4
  · subst a4
    obtain ⟨X',f⟩:=ciX X
    refine ⟨X',?_,?_⟩
    · intro vs Q s t A T j x1 x2 x3 y1 y2 y3 h hq
      have n2 : nI j + 2 = nI (j + 2):=nI_add j 2
      have n3 : nI j + 3 = nI (j + 3):=nI_add j 3
      simp [x1,x2,x3,y1,y2,y3,nI_1,n2,n3,m30_17,m30_18,m30_21,m30_22,m30_23,m30_24,m30_25,m30_26,m30_26p,m30_27,m30_28,m30_29,m30_30,m30_31,m30_31p,m30_32,m30_33,m30_34,m30_35,m30_36,m30_36p,m30_37,m30_40,m30_41,m30_44,m30_45,m30_46,m30_49,m30_50,m30_52,m30_55,m30_56,m30_57,m30_58,m30_59,m30_60,m30_60p,m30_61,m30_62,m30_63,m30_64,m30_65,m30_65p,m30_66,m30_67,m30_68,m30_69,m30_70,m30_70p,m30_71,m30_74,m30_75,m30_78,m30_79,m30_80,m30_83,m30_84,m30_87,m30_88,m30_91,m30_92,m30_93,m30_96,m30_97,m30_98,m30_99,m30_100,m30_101,m30_101p,m30_102,m30_105,m30_106,m30_109,m30_110,m30_111,m30_114,m30_115,m30_118,m30_121,m30_122,m30_123,m30_126,m30_127,m30_130,m30_131,m30_134,m30_135,nb0,nb1,ou_a,Option.toList_some,Option.toList_none,List.nil_append,List.cons_append]
      refine @f 0 _ _ _ _ _ h (fun s' A' h' => ?_)
      simp [x1,x2,x3,y1,y2,y3,nI_1,n2,n3,m30_17,m30_18,m30_21,m30_22,m30_23,m30_24,m30_25,m30_26,m30_26p,m30_27,m30_28,m30_29,m30_30,m30_31,m30_31p,m30_32,m30_33,m30_34,m30_35,m30_36,m30_36p,m30_37,m30_40,m30_41,m30_44,m30_45,m30_46,m30_49,m30_50,m30_52,m30_55,m30_56,m30_57,m30_58,m30_59,m30_60,m30_60p,m30_61,m30_62,m30_63,m30_64,m30_65,m30_65p,m30_66,m30_67,m30_68,m30_69,m30_70,m30_70p,m30_71,m30_74,m30_75,m30_78,m30_79,m30_80,m30_83,m30_84,m30_87,m30_88,m30_91,m30_92,m30_93,m30_96,m30_97,m30_98,m30_99,m30_100,m30_101,m30_101p,m30_102,m30_105,m30_106,m30_109,m30_110,m30_111,m30_114,m30_115,m30_118,m30_121,m30_122,m30_123,m30_126,m30_127,m30_130,m30_131,m30_134,m30_135,nb0,nb1,ou_a,Option.toList_some,Option.toList_none,List.nil_append,List.cons_append]
      exact hq s' A' h'
    · intro vs Q s t A T j x1 x2 x3 y1 y2 y3 h hq
      have n2 : nI j + 2 = nI (j + 2):=nI_add j 2
      have n3 : nI j + 3 = nI (j + 3):=nI_add j 3
      simp [x1,x2,x3,y1,y2,y3,nI_1,n2,n3,m30_17,m30_18,m30_21,m30_22,m30_23,m30_24,m30_25,m30_26,m30_26p,m30_27,m30_28,m30_29,m30_30,m30_31,m30_31p,m30_32,m30_33,m30_34,m30_35,m30_36,m30_36p,m30_37,m30_40,m30_41,m30_44,m30_45,m30_46,m30_49,m30_50,m30_52,m30_55,m30_56,m30_57,m30_58,m30_59,m30_60,m30_60p,m30_61,m30_62,m30_63,m30_64,m30_65,m30_65p,m30_66,m30_67,m30_68,m30_69,m30_70,m30_70p,m30_71,m30_74,m30_75,m30_78,m30_79,m30_80,m30_83,m30_84,m30_87,m30_88,m30_91,m30_92,m30_93,m30_96,m30_97,m30_98,m30_99,m30_100,m30_101,m30_101p,m30_102,m30_105,m30_106,m30_109,m30_110,m30_111,m30_114,m30_115,m30_118,m30_121,m30_122,m30_123,m30_126,m30_127,m30_130,m30_131,m30_134,m30_135,nb0,nb1,ou_a,Option.toList_some,Option.toList_none,List.nil_append,List.cons_append]
      rw [vw]
      simp [x1,x2,x3,y1,y2,y3,nI_1,n2,n3,m30_17,m30_18,m30_21,m30_22,m30_23,m30_24,m30_25,m30_26,m30_26p,m30_27,m30_28,m30_29,m30_30,m30_31,m30_31p,m30_32,m30_33,m30_34,m30_35,m30_36,m30_36p,m30_37,m30_40,m30_41,m30_44,m30_45,m30_46,m30_49,m30_50,m30_52,m30_55,m30_56,m30_57,m30_58,m30_59,m30_60,m30_60p,m30_61,m30_62,m30_63,m30_64,m30_65,m30_65p,m30_66,m30_67,m30_68,m30_69,m30_70,m30_70p,m30_71,m30_74,m30_75,m30_78,m30_79,m30_80,m30_83,m30_84,m30_87,m30_88,m30_91,m30_92,m30_93,m30_96,m30_97,m30_98,m30_99,m30_100,m30_101,m30_101p,m30_102,m30_105,m30_106,m30_109,m30_110,m30_111,m30_114,m30_115,m30_118,m30_121,m30_122,m30_123,m30_126,m30_127,m30_130,m30_131,m30_134,m30_135,nb0,nb1,ou_a,Option.toList_some,Option.toList_none,List.nil_append,List.cons_append]
      refine @f 19 _ _ _ _ _ h (fun t' T' h' => ?_)
      simp [x1,x2,x3,y1,y2,y3,nI_1,n2,n3,m30_17,m30_18,m30_21,m30_22,m30_23,m30_24,m30_25,m30_26,m30_26p,m30_27,m30_28,m30_29,m30_30,m30_31,m30_31p,m30_32,m30_33,m30_34,m30_35,m30_36,m30_36p,m30_37,m30_40,m30_41,m30_44,m30_45,m30_46,m30_49,m30_50,m30_52,m30_55,m30_56,m30_57,m30_58,m30_59,m30_60,m30_60p,m30_61,m30_62,m30_63,m30_64,m30_65,m30_65p,m30_66,m30_67,m30_68,m30_69,m30_70,m30_70p,m30_71,m30_74,m30_75,m30_78,m30_79,m30_80,m30_83,m30_84,m30_87,m30_88,m30_91,m30_92,m30_93,m30_96,m30_97,m30_98,m30_99,m30_100,m30_101,m30_101p,m30_102,m30_105,m30_106,m30_109,m30_110,m30_111,m30_114,m30_115,m30_118,m30_121,m30_122,m30_123,m30_126,m30_127,m30_130,m30_131,m30_134,m30_135,nb0,nb1,ou_a,Option.toList_some,Option.toList_none,List.nil_append,List.cons_append]
      rw [← vw]
      exact hq t' T' h'
  by_cases a5 : sv = 5
  · subst a5
    obtain ⟨X',v,f⟩:=smX X
    refine ⟨X',?_,?_⟩
    · intro vs Q s t A T j x1 x2 x3 y1 y2 y3 h hq
      have n2 : nI j + 2 = nI (j + 2):=nI_add j 2
      have n3 : nI j + 3 = nI (j + 3):=nI_add j 3
      simp [x1,x2,x3,y1,y2,y3,nI_1,n2,n3,m30_17,m30_18,m30_21,m30_22,m30_23,m30_24,m30_25,m30_26,m30_26p,m30_27,m30_28,m30_29,m30_30,m30_31,m30_31p,m30_32,m30_33,m30_34,m30_35,m30_36,m30_36p,m30_37,m30_40,m30_41,m30_44,m30_45,m30_46,m30_49,m30_50,m30_52,m30_55,m30_56,m30_57,m30_58,m30_59,m30_60,m30_60p,m30_61,m30_62,m30_63,m30_64,m30_65,m30_65p,m30_66,m30_67,m30_68,m30_69,m30_70,m30_70p,m30_71,m30_74,m30_75,m30_78,m30_79,m30_80,m30_83,m30_84,m30_87,m30_88,m30_91,m30_92,m30_93,m30_96,m30_97,m30_98,m30_99,m30_100,m30_101,m30_101p,m30_102,m30_105,m30_106,m30_109,m30_110,m30_111,m30_114,m30_115,m30_118,m30_121,m30_122,m30_123,m30_126,m30_127,m30_130,m30_131,m30_134,m30_135,nb0,nb1,ou_a,Option.toList_some,Option.toList_none,List.nil_append,List.cons_append]
      refine @f 0 _ _ _ _ _ h (fun s' A' h' => ?_)
      simp [x1,x2,x3,y1,y2,y3,nI_1,n2,n3,m30_17,m30_18,m30_21,m30_22,m30_23,m30_24,m30_25,m30_26,m30_26p,m30_27,m30_28,m30_29,m30_30,m30_31,m30_31p,m30_32,m30_33,m30_34,m30_35,m30_36,m30_36p,m30_37,m30_40,m30_41,m30_44,m30_45,m30_46,m30_49,m30_50,m30_52,m30_55,m30_56,m30_57,m30_58,m30_59,m30_60,m30_60p,m30_61,m30_62,m30_63,m30_64,m30_65,m30_65p,m30_66,m30_67,m30_68,m30_69,m30_70,m30_70p,m30_71,m30_74,m30_75,m30_78,m30_79,m30_80,m30_83,m30_84,m30_87,m30_88,m30_91,m30_92,m30_93,m30_96,m30_97,m30_98,m30_99,m30_100,m30_101,m30_101p,m30_102,m30_105,m30_106,m30_109,m30_110,m30_111,m30_114,m30_115,m30_118,m30_121,m30_122,m30_123,m30_126,m30_127,m30_130,m30_131,m30_134,m30_135,nb0,nb1,ou_a,Option.toList_some,Option.toList_none,List.nil_append,List.cons_append]
      exact hq s' A' h'
    · intro vs Q s t A T j x1 x2 x3 y1 y2 y3 h hq
      have n2 : nI j + 2 = nI (j + 2):=nI_add j 2
      have n3 : nI j + 3 = nI (j + 3):=nI_add j 3
      simp [x1,x2,x3,y1,y2,y3,nI_1,n2,n3,m30_17,m30_18,m30_21,m30_22,m30_23,m30_24,m30_25,m30_26,m30_26p,m30_27,m30_28,m30_29,m30_30,m30_31,m30_31p,m30_32,m30_33,m30_34,m30_35,m30_36,m30_36p,m30_37,m30_40,m30_41,m30_44,m30_45,m30_46,m30_49,m30_50,m30_52,m30_55,m30_56,m30_57,m30_58,m30_59,m30_60,m30_60p,m30_61,m30_62,m30_63,m30_64,m30_65,m30_65p,m30_66,m30_67,m30_68,m30_69,m30_70,m30_70p,m30_71,m30_74,m30_75,m30_78,m30_79,m30_80,m30_83,m30_84,m30_87,m30_88,m30_91,m30_92,m30_93,m30_96,m30_97,m30_98,m30_99,m30_100,m30_101,m30_101p,m30_102,m30_105,m30_106,m30_109,m30_110,m30_111,m30_114,m30_115,m30_118,m30_121,m30_122,m30_123,m30_126,m30_127,m30_130,m30_131,m30_134,m30_135,nb0,nb1,ou_a,Option.toList_some,Option.toList_none,List.nil_append,List.cons_append]
      rw [vw]
      simp [x1,x2,x3,y1,y2,y3,nI_1,n2,n3,m30_17,m30_18,m30_21,m30_22,m30_23,m30_24,m30_25,m30_26,m30_26p,m30_27,m30_28,m30_29,m30_30,m30_31,m30_31p,m30_32,m30_33,m30_34,m30_35,m30_36,m30_36p,m30_37,m30_40,m30_41,m30_44,m30_45,m30_46,m30_49,m30_50,m30_52,m30_55,m30_56,m30_57,m30_58,m30_59,m30_60,m30_60p,m30_61,m30_62,m30_63,m30_64,m30_65,m30_65p,m30_66,m30_67,m30_68,m30_69,m30_70,m30_70p,m30_71,m30_74,m30_75,m30_78,m30_79,m30_80,m30_83,m30_84,m30_87,m30_88,m30_91,m30_92,m30_93,m30_96,m30_97,m30_98,m30_99,m30_100,m30_101,m30_101p,m30_102,m30_105,m30_106,m30_109,m30_110,m30_111,m30_114,m30_115,m30_118,m30_121,m30_122,m30_123,m30_126,m30_127,m30_130,m30_131,m30_134,m30_135,nb0,nb1,ou_a,Option.toList_some,Option.toList_none,List.nil_append,List.cons_append]
      refine @f 19 _ _ _ _ _ h (fun t' T' h' => ?_)
      simp [x1,x2,x3,y1,y2,y3,nI_1,n2,n3,m30_17,m30_18,m30_21,m30_22,m30_23,m30_24,m30_25,m30_26,m30_26p,m30_27,m30_28,m30_29,m30_30,m30_31,m30_31p,m30_32,m30_33,m30_34,m30_35,m30_36,m30_36p,m30_37,m30_40,m30_41,m30_44,m30_45,m30_46,m30_49,m30_50,m30_52,m30_55,m30_56,m30_57,m30_58,m30_59,m30_60,m30_60p,m30_61,m30_62,m30_63,m30_64,m30_65,m30_65p,m30_66,m30_67,m30_68,m30_69,m30_70,m30_70p,m30_71,m30_74,m30_75,m30_78,m30_79,m30_80,m30_83,m30_84,m30_87,m30_88,m30_91,m30_92,m30_93,m30_96,m30_97,m30_98,m30_99,m30_100,m30_101,m30_101p,m30_102,m30_105,m30_106,m30_109,m30_110,m30_111,m30_114,m30_115,m30_118,m30_121,m30_122,m30_123,m30_126,m30_127,m30_130,m30_131,m30_134,m30_135,nb0,nb1,ou_a,Option.toList_some,Option.toList_none,List.nil_append,List.cons_append]
      rw [← vw]
      exact hq t' T' h'
  obtain ⟨X',f⟩ : ∃ X',X' = X0:=⟨_,rfl⟩
  subst f
  have f:=@rsX X
  refine ⟨X0,?_,?_⟩
  · intro vs Q s t A T j x1 x2 x3 y1 y2 y3 h hq
    have n2 : nI j + 2 = nI (j + 2):=nI_add j 2
    have n3 : nI j + 3 = nI (j + 3):=nI_add j 3
    simp [a0,a1,a7,a2,a3,a4,a5,x1,x2,x3,y1,y2,y3,nI_1,n2,n3,m30_17,m30_18,m30_21,m30_22,m30_23,m30_24,m30_25,m30_26,m30_26p,m30_27,m30_28,m30_29,m30_30,m30_31,m30_31p,m30_32,m30_33,m30_34,m30_35,m30_36,m30_36p,m30_37,m30_40,m30_41,m30_44,m30_45,m30_46,m30_49,m30_50,m30_52,m30_55,m30_56,m30_57,m30_58,m30_59,m30_60,m30_60p,m30_61,m30_62,m30_63,m30_64,m30_65,m30_65p,m30_66,m30_67,m30_68,m30_69,m30_70,m30_70p,m30_71,m30_74,m30_75,m30_78,m30_79,m30_80,m30_83,m30_84,m30_87,m30_88,m30_91,m30_92,m30_93,m30_96,m30_97,m30_98,m30_99,m30_100,m30_101,m30_101p,m30_102,m30_105,m30_106,m30_109,m30_110,m30_111,m30_114,m30_115,m30_118,m30_121,m30_122,m30_123,m30_126,m30_127,m30_130,m30_131,m30_134,m30_135,nb0,nb1,ou_a,Option.toList_some,Option.toList_none,List.nil_append,List.cons_append]
    refine @f 0 _ _ _ _ _ h (fun s' A' h' => ?_)
    simp [x1,x2,x3,y1,y2,y3,nI_1,n2,n3,m30_17,m30_18,m30_21,m30_22,m30_23,m30_24,m30_25,m30_26,m30_26p,m30_27,m30_28,m30_29,m30_30,m30_31,m30_31p,m30_32,m30_33,m30_34,m30_35,m30_36,m30_36p,m30_37,m30_40,m30_41,m30_44,m30_45,m30_46,m30_49,m30_50,m30_52,m30_55,m30_56,m30_57,m30_58,m30_59,m30_60,m30_60p,m30_61,m30_62,m30_63,m30_64,m30_65,m30_65p,m30_66,m30_67,m30_68,m30_69,m30_70,m30_70p,m30_71,m30_74,m30_75,m30_78,m30_79,m30_80,m30_83,m30_84,m30_87,m30_88,m30_91,m30_92,m30_93,m30_96,m30_97,m30_98,m30_99,m30_100,m30_101,m30_101p,m30_102,m30_105,m30_106,m30_109,m30_110,m30_111,m30_114,m30_115,m30_118,m30_121,m30_122,m30_123,m30_126,m30_127,m30_130,m30_131,m30_134,m30_135,nb0,nb1,ou_a,Option.toList_some,Option.toList_none,List.nil_append,List.cons_append]
    exact hq s' A' h'
  · intro vs Q s t A T j x1 x2 x3 y1 y2 y3 h hq
    have n2 : nI j + 2 = nI (j + 2):=nI_add j 2
    have n3 : nI j + 3 = nI (j + 3):=nI_add j 3
    simp [a0,a1,a7,a2,a3,a4,a5,x1,x2,x3,y1,y2,y3,nI_1,n2,n3,m30_17,m30_18,m30_21,m30_22,m30_23,m30_24,m30_25,m30_26,m30_26p,m30_27,m30_28,m30_29,m30_30,m30_31,m30_31p,m30_32,m30_33,m30_34,m30_35,m30_36,m30_36p,m30_37,m30_40,m30_41,m30_44,m30_45,m30_46,m30_49,m30_50,m30_52,m30_55,m30_56,m30_57,m30_58,m30_59,m30_60,m30_60p,m30_61,m30_62,m30_63,m30_64,m30_65,m30_65p,m30_66,m30_67,m30_68,m30_69,m30_70,m30_70p,m30_71,m30_74,m30_75,m30_78,m30_79,m30_80,m30_83,m30_84,m30_87,m30_88,m30_91,m30_92,m30_93,m30_96,m30_97,m30_98,m30_99,m30_100,m30_101,m30_101p,m30_102,m30_105,m30_106,m30_109,m30_110,m30_111,m30_114,m30_115,m30_118,m30_121,m30_122,m30_123,m30_126,m30_127,m30_130,m30_131,m30_134,m30_135,nb0,nb1,ou_a,Option.toList_some,Option.toList_none,List.nil_append,List.cons_append]
    rw [vw]
    simp [x1,x2,x3,y1,y2,y3,nI_1,n2,n3,m30_17,m30_18,m30_21,m30_22,m30_23,m30_24,m30_25,m30_26,m30_26p,m30_27,m30_28,m30_29,m30_30,m30_31,m30_31p,m30_32,m30_33,m30_34,m30_35,m30_36,m30_36p,m30_37,m30_40,m30_41,m30_44,m30_45,m30_46,m30_49,m30_50,m30_52,m30_55,m30_56,m30_57,m30_58,m30_59,m30_60,m30_60p,m30_61,m30_62,m30_63,m30_64,m30_65,m30_65p,m30_66,m30_67,m30_68,m30_69,m30_70,m30_70p,m30_71,m30_74,m30_75,m30_78,m30_79,m30_80,m30_83,m30_84,m30_87,m30_88,m30_91,m30_92,m30_93,m30_96,m30_97,m30_98,m30_99,m30_100,m30_101,m30_101p,m30_102,m30_105,m30_106,m30_109,m30_110,m30_111,m30_114,m30_115,m30_118,m30_121,m30_122,m30_123,m30_126,m30_127,m30_130,m30_131,m30_134,m30_135,nb0,nb1,ou_a,Option.toList_some,Option.toList_none,List.nil_append,List.cons_append]
    refine @f 19 _ _ _ _ _ h (fun t' T' h' => ?_)
    simp [x1,x2,x3,y1,y2,y3,nI_1,n2,n3,m30_17,m30_18,m30_21,m30_22,m30_23,m30_24,m30_25,m30_26,m30_26p,m30_27,m30_28,m30_29,m30_30,m30_31,m30_31p,m30_32,m30_33,m30_34,m30_35,m30_36,m30_36p,m30_37,m30_40,m30_41,m30_44,m30_45,m30_46,m30_49,m30_50,m30_52,m30_55,m30_56,m30_57,m30_58,m30_59,m30_60,m30_60p,m30_61,m30_62,m30_63,m30_64,m30_65,m30_65p,m30_66,m30_67,m30_68,m30_69,m30_70,m30_70p,m30_71,m30_74,m30_75,m30_78,m30_79,m30_80,m30_83,m30_84,m30_87,m30_88,m30_91,m30_92,m30_93,m30_96,m30_97,m30_98,m30_99,m30_100,m30_101,m30_101p,m30_102,m30_105,m30_106,m30_109,m30_110,m30_111,m30_114,m30_115,m30_118,m30_121,m30_122,m30_123,m30_126,m30_127,m30_130,m30_131,m30_134,m30_135,nb0,nb1,ou_a,Option.toList_some,Option.toList_none,List.nil_append,List.cons_append]
    rw [← vw]
    exact hq t' T' h'
set_option maxRecDepth 1000000 in
set_option maxHeartbeats 20000000 in
theorem rl {vs : List Int32} (hlen : vs.length≤260) : ∀ (r j : Nat) (X : XS),vs.length≤j + 4 * r→j≤300→∃ X',(∀ {Q : Option Value→AHeap→Prop} {s t : Nat→Int32} {A T : Nat→List Int32} {l3 : Slot},okS l3→E7 X s A→(∀ s' A',E7 X' s' A'→Q none (put 1 [((FieldType.array .int,vs.map Value.int) : FieldType × List Value)] s' A' (tl t T)))→M30 2 [.val (.ref 1),.val (.ref 0),.val (.int (nI j)),l3] [] (put 1 [((FieldType.array .int,vs.map Value.int) : FieldType × List Value)] s A (tl t T)) Q)∧(∀ {Q : Option Value→AHeap→Prop} {s t : Nat→Int32} {A T : Nat→List Int32} {l3 : Slot},okS l3→E7 X t T→(∀ s' A',E7 X' s' A'→Q none (put 1 [((FieldType.array .int,vs.map Value.int) : FieldType × List Value)] s A (tl s' A')))→M30 2 [.val (.ref 20),.val (.ref 0),.val (.int (nI j)),l3] [] (put 1 [((FieldType.array .int,vs.map Value.int) : FieldType × List Value)] s A (tl t T)) Q):=by
  intro r
  induction r with
  | zero =>
    intro j X e hj
    have g' : (vs.length.toInt32 < nI (j + 4)) = True:=lT (a:=vs.length) (by omega) (by omega)
    have n4 : nI j + 4 = nI (j + 4):=nI_add j 4
    refine ⟨X,?_,?_⟩
    · intro Q s t A T l3 o3 h hq
      rw [m30_2]
      simp [n4,g',m30_3,m30_4,m30_5,m30_6,m30_6p,m30_7,m30_144,nb0,nb1,ou_a,Option.toList_some,Option.toList_none,List.nil_append,List.cons_append]
      exact hq s A h
    · intro Q s t A T l3 o3 h hq
      rw [m30_2]
      simp [n4,g',m30_3,m30_4,m30_5,m30_6,m30_6p,m30_7,m30_144,nb0,nb1,ou_a,Option.toList_some,Option.toList_none,List.nil_append,List.cons_append]
      exact hq t T h
  | succ r ih =>
    intro j X e hj
    have n4 : nI j + 4 = nI (j + 4):=nI_add j 4
    by_cases z : j + 4≤vs.length
    · have g' : (vs.length.toInt32 < nI (j + 4)) = False:=lF (a:=vs.length) (by omega) (by omega)
      have x0 : inB (nI j) vs:=nI_in (by omega) (by omega)
      have x1 : inB (nI (j + 1)) vs:=nI_in (by omega) (by omega)
      have x2 : inB (nI (j + 2)) vs:=nI_in (by omega) (by omega)
      have x3 : inB (nI (j + 3)) vs:=nI_in (by omega) (by omega)
      obtain ⟨X1,p1,p2⟩:=stp X (getA vs (nI j) &&& 7) (getA vs (nI (j + 1))) (getA vs (nI (j + 2))) (getA vs (nI (j + 3)))
      obtain ⟨X',q1,q2⟩:=ih (j + 4) X1 (by omega) (by omega)
      refine ⟨X',?_,?_⟩
      · intro Q s t A T l3 o3 h hq
        rw [m30_2]
        simp [n4,g',x0,o3,m30_3,m30_4,m30_5,m30_6,m30_6p,m30_7,m30_10,m30_11,m30_12,m30_12p,m30_13,m30_15,m30_16u,m30_16i,m30_16r,m30_16g,nb0,nb1,ou_a,Option.toList_some,Option.toList_none,List.nil_append,List.cons_append]
        refine p1 x1 x2 x3 rfl rfl rfl h (fun s' A' h' => ?_)
        simp [n4,m30_138,m30_141,nb0,nb1,ou_a,Option.toList_some,Option.toList_none,List.nil_append,List.cons_append]
        exact q1 (okS_i _) h' hq
      · intro Q s t A T l3 o3 h hq
        rw [m30_2]
        simp [n4,g',x0,o3,m30_3,m30_4,m30_5,m30_6,m30_6p,m30_7,m30_10,m30_11,m30_12,m30_12p,m30_13,m30_15,m30_16u,m30_16i,m30_16r,m30_16g,nb0,nb1,ou_a,Option.toList_some,Option.toList_none,List.nil_append,List.cons_append]
        refine p2 x1 x2 x3 rfl rfl rfl h (fun t' T' h' => ?_)
        simp [n4,m30_138,m30_141,nb0,nb1,ou_a,Option.toList_some,Option.toList_none,List.nil_append,List.cons_append]
        exact q2 (okS_i _) h' hq
    · have g' : (vs.length.toInt32 < nI (j + 4)) = True:=lT (a:=vs.length) (by omega) (by omega)
      refine ⟨X,?_,?_⟩
      · intro Q s t A T l3 o3 h hq
        rw [m30_2]
        simp [n4,g',m30_3,m30_4,m30_5,m30_6,m30_6p,m30_7,m30_144,nb0,nb1,ou_a,Option.toList_some,Option.toList_none,List.nil_append,List.cons_append]
        exact hq s A h
      · intro Q s t A T l3 o3 h hq
        rw [m30_2]
        simp [n4,g',m30_3,m30_4,m30_5,m30_6,m30_6p,m30_7,m30_144,nb0,nb1,ou_a,Option.toList_some,Option.toList_none,List.nil_append,List.cons_append]
        exact hq t T h
set_option maxRecDepth 1000000 in
set_option maxHeartbeats 20000000 in
theorem own_k {vs : List Int32} {Q : Option Value→AHeap→Prop} (hlen : vs.length≤260) (hF : ∀ s A t T,LN A→LN T→Q (some (.int 1)) (put 1 [((FieldType.array .int,vs.map Value.int) : FieldType × List Value)] s A (tl t T))) : M32 0 [.val (.ref 0),.unset,.unset,.unset,.unset,.unset,.unset] [] [((FieldType.array .int,vs.map Value.int) : FieldType × List Value)] Q:=by
  obtain ⟨X1,r1,r2⟩:=rl hlen 65 0 X0 (by omega) (by decide)
  obtain ⟨X2,v2,f2⟩:=smX X1
  obtain ⟨X3,v3,f3⟩:=avX X2 1 0 0
  simp [m32_0,m32_3,m32_4,nb0,nb1,ou_a,Option.toList_some,Option.toList_none,List.nil_append,List.cons_append]
  refine Eq.mpr (own_ctor0 (pre:=[((FieldType.array .int,vs.map Value.int) : FieldType × List Value)]) (b:=1) rfl (Nat.le_refl 1)) ?_
  simp [m0_0,m0_1,m0_4,m0_5,m0_12,m0_13,m0_20,m0_21,m0_28,m0_29,m0_36,m0_37,m0_44,m0_45,m0_52,m0_53,m0_60,m0_61,m0_68,m0_69,m0_76,m0_77,m0_85,m0_86,m0_94,m0_95,m0_103,m0_104,m0_111,m0_112,m0_119,m0_120,m0_127,m0_128,m0_135,m0_136,m0_143,m0_144,m0_152,m0_153,m0_154,m0_157,m0_158,m0_159,m0_162,m0_163,m0_164,m0_167,m0_168,m0_169,m0_172,m0_173,m0_174,m0_177,m32_7u,nb0,nb1,ou_a,Option.toList_some,Option.toList_none,List.nil_append,List.cons_append]
  simp [put_len,m32_8,m32_11,m32_12,nb0,nb1,ou_a,Option.toList_some,Option.toList_none,List.nil_append,List.cons_append]
  refine Eq.mpr (own_ctor0 (pre:=put 1 [((FieldType.array .int,vs.map Value.int) : FieldType × List Value)] _ A0 []) (b:=20) (by rw [put_len]; rfl) (by decide)) ?_
  simp [m0_0,m0_1,m0_4,m0_5,m0_12,m0_13,m0_20,m0_21,m0_28,m0_29,m0_36,m0_37,m0_44,m0_45,m0_52,m0_53,m0_60,m0_61,m0_68,m0_69,m0_76,m0_77,m0_85,m0_86,m0_94,m0_95,m0_103,m0_104,m0_111,m0_112,m0_119,m0_120,m0_127,m0_128,m0_135,m0_136,m0_143,m0_144,m0_152,m0_153,m0_154,m0_157,m0_158,m0_159,m0_162,m0_163,m0_164,m0_167,m0_168,m0_169,m0_172,m0_173,m0_174,m0_177,m32_15u,nb0,nb1,ou_a,Option.toList_some,Option.toList_none,List.nil_append,List.cons_append]
  rw [← vw]
  simp [m30_0,m30_1u,m30_3,m30_4,m30_5,m30_6,m30_6p,m30_7,m30_10,m30_11,m30_12,m30_12p,m30_13,m30_15,m30_16u,m30_16i,m30_16r,m30_16g,m30_17,m30_18,m30_21,m30_22,m30_23,m30_24,m30_25,m30_26,m30_26p,m30_27,m30_28,m30_29,m30_30,m30_31,m30_31p,m30_32,m30_33,m30_34,m30_35,m30_36,m30_36p,m30_37,m30_40,m30_41,m30_44,m30_45,m30_46,m30_49,m30_50,m30_52,m30_55,m30_56,m30_57,m30_58,m30_59,m30_60,m30_60p,m30_61,m30_62,m30_63,m30_64,m30_65,m30_65p,m30_66,m30_67,m30_68,m30_69,m30_70,m30_70p,m30_71,m30_74,m30_75,m30_78,m30_79,m30_80,m30_83,m30_84,m30_87,m30_88,m30_91,m30_92,m30_93,m30_96,m30_97,m30_98,m30_99,m30_100,m30_101,m30_101p,m30_102,m30_105,m30_106,m30_109,m30_110,m30_111,m30_114,m30_115,m30_118,m30_121,m30_122,m30_123,m30_126,m30_127,m30_130,m30_131,m30_134,m30_135,m30_138,m30_141,m30_144,m32_16,m32_17,m32_18,m32_21,m32_22,m32_25,m32_26,m32_27,m32_30,m32_31,m32_32,m32_35,m32_36,m32_37,m32_40,m32_43,m32_44,nb0,nb1,ou_a,Option.toList_some,Option.toList_none,List.nil_append,List.cons_append]
  refine r1 okS_u (E70 (fun _ => rfl) rfl rfl rfl rfl rfl) (fun s1 A1 h1 => ?_)
  simp [m32_16,m32_17,m32_18,m32_21,m32_22,m32_25,m32_26,m32_27,m32_30,m32_31,m32_32,m32_35,m32_36,m32_37,m32_40,m32_43,m32_44,nb0,nb1,ou_a,Option.toList_some,Option.toList_none,List.nil_append,List.cons_append]
  refine rsX X1 (b:=0) h1 (fun s2 A2 h2 => ?_)
  simp [m30_0,m30_1u,m30_3,m30_4,m30_5,m30_6,m30_6p,m30_7,m30_10,m30_11,m30_12,m30_12p,m30_13,m30_15,m30_16u,m30_16i,m30_16r,m30_16g,m30_17,m30_18,m30_21,m30_22,m30_23,m30_24,m30_25,m30_26,m30_26p,m30_27,m30_28,m30_29,m30_30,m30_31,m30_31p,m30_32,m30_33,m30_34,m30_35,m30_36,m30_36p,m30_37,m30_40,m30_41,m30_44,m30_45,m30_46,m30_49,m30_50,m30_52,m30_55,m30_56,m30_57,m30_58,m30_59,m30_60,m30_60p,m30_61,m30_62,m30_63,m30_64,m30_65,m30_65p,m30_66,m30_67,m30_68,m30_69,m30_70,m30_70p,m30_71,m30_74,m30_75,m30_78,m30_79,m30_80,m30_83,m30_84,m30_87,m30_88,m30_91,m30_92,m30_93,m30_96,m30_97,m30_98,m30_99,m30_100,m30_101,m30_101p,m30_102,m30_105,m30_106,m30_109,m30_110,m30_111,m30_114,m30_115,m30_118,m30_121,m30_122,m30_123,m30_126,m30_127,m30_130,m30_131,m30_134,m30_135,m30_138,m30_141,m30_144,m32_16,m32_17,m32_18,m32_21,m32_22,m32_25,m32_26,m32_27,m32_30,m32_31,m32_32,m32_35,m32_36,m32_37,m32_40,m32_43,m32_44,nb0,nb1,ou_a,Option.toList_some,Option.toList_none,List.nil_append,List.cons_append]
  refine r1 okS_u h2 (fun s3 A3 h3 => ?_)
  simp [m30_0,m30_1u,m30_3,m30_4,m30_5,m30_6,m30_6p,m30_7,m30_10,m30_11,m30_12,m30_12p,m30_13,m30_15,m30_16u,m30_16i,m30_16r,m30_16g,m30_17,m30_18,m30_21,m30_22,m30_23,m30_24,m30_25,m30_26,m30_26p,m30_27,m30_28,m30_29,m30_30,m30_31,m30_31p,m30_32,m30_33,m30_34,m30_35,m30_36,m30_36p,m30_37,m30_40,m30_41,m30_44,m30_45,m30_46,m30_49,m30_50,m30_52,m30_55,m30_56,m30_57,m30_58,m30_59,m30_60,m30_60p,m30_61,m30_62,m30_63,m30_64,m30_65,m30_65p,m30_66,m30_67,m30_68,m30_69,m30_70,m30_70p,m30_71,m30_74,m30_75,m30_78,m30_79,m30_80,m30_83,m30_84,m30_87,m30_88,m30_91,m30_92,m30_93,m30_96,m30_97,m30_98,m30_99,m30_100,m30_101,m30_101p,m30_102,m30_105,m30_106,m30_109,m30_110,m30_111,m30_114,m30_115,m30_118,m30_121,m30_122,m30_123,m30_126,m30_127,m30_130,m30_131,m30_134,m30_135,m30_138,m30_141,m30_144,m32_16,m32_17,m32_18,m32_21,m32_22,m32_25,m32_26,m32_27,m32_30,m32_31,m32_32,m32_35,m32_36,m32_37,m32_40,m32_43,m32_44,nb0,nb1,ou_a,Option.toList_some,Option.toList_none,List.nil_append,List.cons_append]
  refine r2 okS_u (E70 (fun _ => rfl) rfl rfl rfl rfl rfl) (fun t3 T3 k3 => ?_)
  simp [m32_16,m32_17,m32_18,m32_21,m32_22,m32_25,m32_26,m32_27,m32_30,m32_31,m32_32,m32_35,m32_36,m32_37,m32_40,m32_43,m32_44,nb0,nb1,ou_a,Option.toList_some,Option.toList_none,List.nil_append,List.cons_append]
  refine smA h3 k3 ?_
  simp [m32_40,m32_43,m32_44,m32_45,m32_46,m32_49u,m32_50,m32_51,m32_54u,m32_56,m32_57,m32_59,m32_62,m32_63,m32_64,m32_67,m32_70,m32_71,m32_72,m32_73,m32_74,m32_75,m32_76,m32_79u,m32_81,m32_82,m32_83,m32_84,m32_85,m32_88u,m32_90,m32_92,m32_94,m32_97,m32_98,m32_101,m32_102,nb0,nb1,ou_a,Option.toList_some,Option.toList_none,List.nil_append,List.cons_append]
  refine @f2 0 _ _ _ _ _ h3 (fun s4 A4 h4 => ?_)
  simp [m32_40,m32_43,m32_44,m32_45,m32_46,m32_49u,m32_50,m32_51,m32_54u,m32_56,m32_57,m32_59,m32_62,m32_63,m32_64,m32_67,m32_70,m32_71,m32_72,m32_73,m32_74,m32_75,m32_76,m32_79u,m32_81,m32_82,m32_83,m32_84,m32_85,m32_88u,m32_90,m32_92,m32_94,m32_97,m32_98,m32_101,m32_102,nb0,nb1,ou_a,Option.toList_some,Option.toList_none,List.nil_append,List.cons_append]
  rw [vw]
  simp [m32_40,m32_43,m32_44,m32_45,m32_46,m32_49u,m32_50,m32_51,m32_54u,m32_56,m32_57,m32_59,m32_62,m32_63,m32_64,m32_67,m32_70,m32_71,m32_72,m32_73,m32_74,m32_75,m32_76,m32_79u,m32_81,m32_82,m32_83,m32_84,m32_85,m32_88u,m32_90,m32_92,m32_94,m32_97,m32_98,m32_101,m32_102,nb0,nb1,ou_a,Option.toList_some,Option.toList_none,List.nil_append,List.cons_append]
  refine @f2 19 _ _ _ _ _ k3 (fun t4 T4 k4 => ?_)
  simp [m32_40,m32_43,m32_44,m32_45,m32_46,m32_49u,m32_50,m32_51,m32_54u,m32_56,m32_57,m32_59,nb0,nb1,ou_a,Option.toList_some,Option.toList_none,List.nil_append,List.cons_append]
  rw [← vw]
  simp [m32_62,m32_63,m32_64,nb0,nb1,ou_a,Option.toList_some,Option.toList_none,List.nil_append,List.cons_append]
  refine smA h4 k4 ?_
  simp [m32_67,m32_70,m32_71,m32_72,m32_73,m32_74,m32_75,m32_76,m32_79u,m32_81,m32_82,m32_83,m32_84,m32_85,m32_88u,m32_90,m32_92,m32_94,m32_97,m32_98,m32_101,m32_102,nb0,nb1,ou_a,Option.toList_some,Option.toList_none,List.nil_append,List.cons_append]
  refine @f3 0 _ _ _ _ _ h4 (fun s5 A5 h5 => ?_)
  simp [m32_67,m32_70,m32_71,m32_72,m32_73,m32_74,m32_75,m32_76,m32_79u,m32_81,m32_82,m32_83,m32_84,m32_85,m32_88u,m32_90,m32_92,m32_94,m32_97,m32_98,m32_101,m32_102,nb0,nb1,ou_a,Option.toList_some,Option.toList_none,List.nil_append,List.cons_append]
  rw [vw]
  simp [m32_67,m32_70,m32_71,m32_72,m32_73,m32_74,m32_75,m32_76,m32_79u,m32_81,m32_82,m32_83,m32_84,m32_85,m32_88u,m32_90,m32_92,m32_94,m32_97,m32_98,m32_101,m32_102,nb0,nb1,ou_a,Option.toList_some,Option.toList_none,List.nil_append,List.cons_append]
  refine @f3 19 _ _ _ _ _ k4 (fun t5 T5 k5 => ?_)
  simp [m32_67,m32_70,m32_71,m32_72,m32_73,m32_74,m32_75,m32_76,m32_79u,m32_81,m32_82,m32_83,m32_84,m32_85,m32_88u,m32_90,m32_92,m32_94,m32_97,m32_98,m32_101,m32_102,nb0,nb1,ou_a,Option.toList_some,Option.toList_none,List.nil_append,List.cons_append]
  rw [← vw]
  exact hF _ _ _ _ h5.ln k5.ln
set_option maxRecDepth 1000000 in
set_option maxHeartbeats 20000000 in
theorem own_law (vs : List Int32) (hlen : vs.length≤260) : W tables_1 dn 1 x code ret 0 (entry [.ref 0] maxLocals) [] [(FieldType.array .int,vs.map Value.int)] (fun v H1 => v = some (.int 1)∧H1.length - ([(FieldType.array .int,vs.map Value.int)] : AHeap).length≤88∧tot tables_1 H1 - tot tables_1 [(FieldType.array .int,vs.map Value.int)]≤19008):=by
  show M32 0 [.val (.ref 0),.unset,.unset,.unset,.unset,.unset,.unset] [] [(FieldType.array .int,vs.map Value.int)] _
  refine own_k hlen (fun s' A' t' T' hq hq2 => ⟨rfl,?_,?_⟩)
  · rw [vw,put_len]; simp
  · have hl : (put 1 [(FieldType.array .int,vs.map Value.int)] s' A' []).length = 20:=by rw [put_len]; rfl
    rw [vw,put_tot,pad_eq hl,put_tot,pad_1]
    have hq : ∀ i,(A' i).length = (A0 i).length:=hq
    have hq2 : ∀ i,(T' i).length = (A0 i).length:=hq2
    simp only [hq,hq2,put_len,put_tot,pad_0,tot_nil,List.length_nil,List.length_cons,A0l_0,A0l_1,A0l_2,A0l_3,A0l_4,A0l_5,A0l_6,A0l_7,A0l_8,A0l_9,A0l_10,A0l_11,A0l_12,A0l_13,A0l_14,A0l_15,A0l_16,A0l_17]
    omega
theorem own_dn : ∀ f' l',dnOf dn x = some (f',l')→f'≤room_1.frames∧l'≤room_1.locals:=by
  have h : dnOf dn x = some (5,82):=by decide +kernel
  intro f' l' q; rw [h] at q; cases q; decide
theorem own_pn : Jvm.plainName x.cls = true:=by first | (simp [Jvm.plainName,overriddenIn,x]; done) | decide +kernel
theorem own_rm (l : Launch) (Z : State) (a0 : Array Value) (hw : ∀ d ∈ tables_1,d.before a0 Z = true) (vs : List Int32) (hlen : vs.length≤260) (h : Heap) (a : Addr) (cl : Cell) (Ar : Arr Z h a cl .int) (ev : cl.slots = (vs.map Value.int).toArray) :
    MetFree l x (head1 (Jvm.Cond.code x code maxLocals ret::tables_1) room_1) (fun A U => A = #[.ref a]∧Z.Warmed39 U.vm∧U.heap = h) (fun _ _ _ _ _ => True) (fun _ U o U' => ∃ w L,o = .returned w∧(w = some (.int 1)∧Fr h.size L)∧FrameEnd U o U' L 88 19008) :=
  law_of (as:=[.ref 0]) (mx:=maxLocals) (f:=room_1.frames) (lc:=room_1.locals) hw l tables_1 own_pn (by show 1≤7; omega) (own_law vs hlen) own_dn (Sim.script tables_1 Ar ev)
set_option maxRecDepth 65536 in
set_option maxHeartbeats 40000000 in
theorem comes_1 {Post : Tables→Env→Array Value→State→Outcome→State→Prop} (hpost : ∀ tb e args s v u,(limb_1_1.after args s (.returned v) u = true∧limb_1_2.after args s (.returned v) u = true∧True)→FrameEnd s (.returned v) u (Jvm.fieldLocs frame_1_writes args s ++ Jvm.arrayLocs frame_1_arrays args s ++ Jvm.staticLocs frame_1_statics s) 88 19008→Post tb e args s (.returned v) u) :
    ArmFor flags0 classFile x code maxLocals ret World_1 tables_1 room_1 Calls_1 rest_1 Pre_1 Post:=by
  intro l hfl _ _ p e ha hc hk s m args below hf hA hF happ hP
  obtain ⟨hcalls,hrest,hpre⟩:=hP
  obtain ⟨-,-,-,hnamed,-,-,-,hat⟩:=(Spec.applies_iff hf).mp happ
  obtain ⟨hg,hn⟩:=and_e (Cond.before_iff.mp (show (Jvm.Cond.and given_1 narrow_1).before args s = true from hpre))
  obtain ⟨g0,q0⟩:=and_e hg
  obtain ⟨w0,rfl⟩ : ∃ w0 : Value,args = #[w0]:=by
    have hs : args.size = 1:=by simpa [Cond.value,given_1] using g0
    obtain ⟨L⟩:=args
    match L,hs with
    | [w0],_ => exact ⟨w0,rfl⟩
  have hw:=fun d (hd : d ∈ tables_1) => atoms_spec (ws:=Jvm.Cond.code x code maxLocals ret::tables_1) hat d (List.mem_cons_of_mem _ hd)
  have hfit : Fit s:=fun {y c} hc i hi => by
    obtain ⟨ha,rfl⟩:=Array.getElem?_eq_some_iff.mp hc
    have q:=List.all_eq_true.mp ((Array.all_eq_true_iff_forall_mem.mp hF) _ (Array.getElem_mem ha)) i (List.mem_range.mpr hi)
    simpa [Array.getElem?_eq_getElem hi] using q
  obtain ⟨n1,n2⟩:=and_e hn
  obtain ⟨a,ea⟩:=arr_v n1
  obtain rfl : w0 = .ref a:=Option.some.inj ea
  obtain ⟨cl,Ar⟩:=Arr.start ea n1
  obtain ⟨r1,-⟩:=and_e (Cond.before_iff.mp (show rest_1_c.before _ s = true from hrest))
  obtain ⟨z,ez⟩:=is_v r1
  have hat':=Ar.fin (Vm.Alike.refl _)
  have hsz : cl.slots.size < 2 ^ 31∧z = cl.slots.size.toInt32:=by
    simp only [Term.eval] at ea ez
    simp only [ea,hat',Option.bind_eq_bind,Option.bind_some] at ez
    split at ez
    · rename_i hlt; exact ⟨hlt,by simpa using ez.symm⟩
    · cases ez
  obtain ⟨vs,ev⟩:=script_of hfit Ar hsz.1
  have hlen : vs.length≤260:=by
    have e1 : cl.slots.size = vs.length:=by rw [ev]; simp
    have e2:=len_toInt hsz.1
    have n3:=Cond.le_ints (a:=.length (.arg 0)) (b:=.int 260) ez (Term.int_eval _)
    rw [n2] at n3
    have n4:=of_decide_eq_true (Option.some.inj n3).symm
    rw [Int32.le_iff_toInt_le,hsz.2,e2] at n4
    have e3 : (260 : Int32).toInt = 260:=by decide
    rw [e3] at n4
    omega
  obtain ⟨n,o,h1,h2,h3,_,L,rfl,⟨rfl,N⟩,hq⟩:=own_rm l s _ hw vs hlen s.heap a cl Ar ev p e ha hc hk s m _ below hf ((Spec.applies_iff_loose hf).mp happ).1 ⟨rfl,State.Warmed39.refl s,rfl⟩ trivial
  exact ⟨n,_,h1,h2,h3,hpost _ _ _ _ _ _ ⟨Cond.after_iff.mpr rfl,Cond.after_iff.mpr (eq_i res_at (Term.int_eval (1)) rfl),trivial⟩ ⟨hq.1,hq.2.1,(hq.2.2.sift fun y hy => Or.inr (N y hy)).mono (by decide) (by decide)⟩⟩
theorem main_1_1 : Claimed_1_1:=comes_1 fun _ _ _ _ _ _ h hF => ⟨h.1,hF⟩
theorem main_1_2 : Claimed_1_2:=comes_1 fun _ _ _ _ _ _ h hF => ⟨h.2.1,hF⟩
end Jvm.Pilot.@@N@@
namespace Jvm.Pilot.@@N@@
open Jvm Jvm.ClassFile Sem Op Lib Jvm.Free Jvm.Stand Jvm.Pilot.@@N@@.Jvm.D
/-! MADE BY PROGRAM (witnessworld.py) out of the Statement's table words and the real class files: 11 classes; the members and pool entries that the words name. The judged class is class 1, her method 1. -/
namespace start1
open Jvm.ClassFile
def u (s : String) : CpInfo:=.utf8 (stringToUtf16 s)
/-- a pool by its gaps: so many unusable entries, then the entry; so many at the end -/
def gap : Nat→List CpInfo→List CpInfo
  | 0,r => r
  | n + 1,r => .unusable::gap n r
def poolList (es : List (Nat × CpInfo)) (last : Nat) : List CpInfo:=es.foldr (fun e r => gap e.1 (e.2::r)) (gap last [])
def pool (es : List (Nat × CpInfo)) (last : Nat) : Array CpInfo:=⟨poolList es last⟩
def fileOf (pool : Array CpInfo) (this : Nat) (attrs : Array Attribute:=#[]) (ms : Array MethodInfo:=#[]) (fl : Nat:=33) (sup : Nat:=0) (ifs : Array Nat:=#[]) (fds : Array FieldInfo:=#[]) : ClassFile where
  minorVersion:=0
  majorVersion:=65
  constantPool:=pool
  accessFlags:=fl
  thisClass:=this
  superClass:=sup
  interfaces:=ifs
  fields:=fds
  methods:=ms
  attributes:=attrs
def plain (name : String) (sup : Option ClassId) : Class where
  name:=name
  kind:=.ordinary
  loader:=none
  accessFlags:=33
  super:=sup
  interfaces:=#[]
  cf:=none
  fields:=#[]
  methods:=#[]
  instanceTypes:=#[]
  staticTypes:=#[]
  resolved:=#[]
  callSites:=[]
  init:=.initialized
  statics:=none
  mirror:=none
def pool0 : Array CpInfo:=pool [(5,u "<init>"),(0,u "()V"),(1,.class_ 10),(1,u "java/lang/Object")] 113
def k0c0 : Code:={ maxStack:=0,maxLocals:=1,code:=object_method_1_code,exceptionTable:=#[],attributes:=#[] }
def k0m0 : Method:={ name := "<init>", desc := "()V", sig:={ parameters:=[],returnType:=none },accessFlags:=1,code:=some k0c0 }
/-- java/lang/Object -/
def k0 : Class:={ plain "java/lang/Object" none with
  accessFlags:=33
  interfaces:=#[]
  cf:=some (fileOf pool0 8 #[] #[{ accessFlags:=1,nameIndex:=5,descriptorIndex:=6,attributes:=#[] }] 33 0 #[] #[])
  fields:=#[]
  methods:=#[k0m0]
  instanceTypes:=#[]
  staticTypes:=#[]
  resolved:=Array.replicate 124 none
  statics:=none }
def pool1 : Array CpInfo:=pool [(2,.class_ 4),(0,.nameAndType 5 6),(0,u "java/lang/Object"),(0,u "<init>"),(0,u "()V"),(0,.class_ 8),(0,u "RetimingEngine"),(0,.methodref 7 3),(0,.methodref 11 12),(0,.class_ 13),(0,.nameAndType 14 15),(0,u "RetimingEngineL5"),(0,u "run"),(0,u "(LRetimingEngine;[I)V"),(0,.methodref 7 17),(0,.nameAndType 18 6),(0,u "reset"),(0,.methodref 11 20),(0,.nameAndType 21 22),(0,u "same"),(0,u "(LRetimingEngine;LRetimingEngine;)Z"),(0,.methodref 7 24),(0,.nameAndType 25 26),(0,u "simulate"),(0,u "()I"),(0,.methodref 7 28),(0,.nameAndType 29 30),(0,u "addVertex"),(0,u "(III)I"),(0,.methodref 7 32),(0,.nameAndType 33 30),(0,u "addEdge"),(0,.methodref 7 35),(0,.nameAndType 36 26),(0,u "retime"),(0,.methodref 7 38),(0,.nameAndType 39 40),(0,u "feedInput"),(0,u "(I)Z"),(0,.methodref 7 42),(0,.nameAndType 43 6),(0,u "clearInputs"),(0,.methodref 7 45),(0,.nameAndType 46 26),(0,u "edgeCount"),(0,.methodref 7 48),(0,.nameAndType 49 26),(0,u "minPeriod"),(0,.methodref 7 51),(0,.nameAndType 52 26),(0,u "originalPeriod"),(0,.methodref 7 54),(0,.nameAndType 55 26),(0,u "retimedPeriod"),(0,.methodref 7 57),(0,.nameAndType 58 59),(0,u "lag"),(0,u "(I)I"),(0,.methodref 7 61),(0,.nameAndType 62 59),(0,u "retimedRegs"),(0,.methodref 7 64),(0,.nameAndType 65 66),(0,u "regWeight"),(0,u "(II)I"),(0,.methodref 7 68),(0,.nameAndType 69 66),(0,u "pathDelay"),(0,.methodref 7 71),(0,.nameAndType 72 66),(0,u "output"),(2,u "law"),(0,u "([I)Z")] 3
def k1m0 : Method:={ name := "<init>", desc := "()V", sig:={ parameters:=[],returnType:=none },accessFlags:=1,code:=none }
def k1c1 : Code:={ maxStack:=4,maxLocals:=7,code:=code,exceptionTable:=#[],attributes:=#[] }
def k1m1 : Method:={ name := "law", desc := "([I)Z", sig:={ parameters:=[(.array .int)],returnType:=some .boolean },accessFlags:=9,code:=some k1c1 }
def k1c2 : Code:={ maxStack:=6,maxLocals:=4,code:=method_3_code,exceptionTable:=#[],attributes:=#[] }
def k1m2 : Method:={ name := "run", desc := "(LRetimingEngine;[I)V", sig:={ parameters:=[(.object "RetimingEngine"),(.array .int)],returnType:=none },accessFlags:=10,code:=some k1c2 }
def k1c3 : Code:={ maxStack:=3,maxLocals:=6,code:=method_4_code,exceptionTable:=#[],attributes:=#[] }
def k1m3 : Method:={ name := "same", desc := "(LRetimingEngine;LRetimingEngine;)Z", sig:={ parameters:=[(.object "RetimingEngine"),(.object "RetimingEngine")],returnType:=some .boolean },accessFlags:=10,code:=some k1c3 }
/-- RetimingEngineL5 -/
def k1 : Class:={ plain "RetimingEngineL5" (some 0) with
  accessFlags:=49
  interfaces:=#[]
  cf:=some (fileOf pool1 11 #[] #[{ accessFlags:=1,nameIndex:=5,descriptorIndex:=6,attributes:=#[] },{ accessFlags:=9,nameIndex:=75,descriptorIndex:=76,attributes:=#[] },{ accessFlags:=10,nameIndex:=14,descriptorIndex:=15,attributes:=#[] },{ accessFlags:=10,nameIndex:=21,descriptorIndex:=22,attributes:=#[] }] 49 2 #[] #[])
  fields:=#[]
  methods:=#[k1m0,k1m1,k1m2,k1m3]
  instanceTypes:=#[]
  staticTypes:=#[]
  resolved:=Array.replicate 80 none
  statics:=none }
def pool2 : Array CpInfo:=pool [(1,.methodref 2 3),(0,.class_ 4),(0,.nameAndType 5 6),(0,u "java/lang/Object"),(0,u "<init>"),(0,u "()V"),(0,.fieldref 8 9),(0,.class_ 10),(0,.nameAndType 11 12),(0,u "RetimingEngine"),(0,u "vop"),(0,u "[I"),(0,.fieldref 8 14),(0,.nameAndType 15 12),(0,u "vdel"),(0,.fieldref 8 17),(0,.nameAndType 18 12),(0,u "vk"),(0,.fieldref 8 20),(0,.nameAndType 21 12),(0,u "esrc"),(0,.fieldref 8 23),(0,.nameAndType 24 12),(0,u "edst"),(0,.fieldref 8 26),(0,.nameAndType 27 12),(0,u "ereg"),(0,.fieldref 8 29),(0,.nameAndType 30 12),(0,u "enew"),(0,.fieldref 8 32),(0,.nameAndType 33 12),(0,u "inputs"),(0,.fieldref 8 35),(0,.nameAndType 36 12),(0,u "outs"),(0,.fieldref 8 38),(0,.nameAndType 39 12),(0,u "wt"),(0,.fieldref 8 41),(0,.nameAndType 42 12),(0,u "dd"),(0,.fieldref 8 44),(0,.nameAndType 45 46),(0,u "reach"),(0,u "[Z"),(0,.fieldref 8 48),(0,.nameAndType 49 12),(0,u "dist"),(0,.fieldref 8 51),(0,.nameAndType 52 12),(0,u "lagv"),(0,.fieldref 8 54),(0,.nameAndType 55 12),(0,u "order"),(0,.fieldref 8 57),(0,.nameAndType 58 12),(0,u "indeg"),(0,.fieldref 8 60),(0,.nameAndType 61 12),(0,u "arr"),(0,.fieldref 8 63),(0,.nameAndType 64 12),(0,u "sval"),(0,.fieldref 8 66),(0,.nameAndType 67 68),(0,u "n"),(0,u "I"),(0,.fieldref 8 70),(0,.nameAndType 71 68),(0,u "m"),(0,.fieldref 8 73),(0,.nameAndType 74 68),(0,u "inCount"),(0,.fieldref 8 76),(0,.nameAndType 77 68),(0,u "sim"),(0,.fieldref 8 79),(0,.nameAndType 80 81),(0,u "retimed"),(0,u "Z"),(0,.fieldref 8 83),(0,.nameAndType 84 68),(0,u "pmin"),(0,.methodref 8 86),(0,.nameAndType 87 88),(0,u "topo"),(0,u "(I)Z"),(0,.methodref 8 90),(0,.nameAndType 91 92),(0,u "period"),(0,u "(I)I"),(0,.fieldref 8 94),(0,.nameAndType 95 68),(0,u "origPeriod"),(0,.methodref 8 97),(0,.nameAndType 98 6),(0,u "computePairs"),(0,.methodref 8 100),(0,.nameAndType 101 102),(0,u "searchMin"),(0,u "()I"),(0,.methodref 8 104),(0,.nameAndType 105 88),(0,u "feasible"),(0,.methodref 8 107),(0,.nameAndType 108 6),(0,u "applyLags"),(0,.fieldref 8 110),(0,.nameAndType 111 68),(0,u "retPeriod"),(0,.methodref 8 113),(0,.nameAndType 114 115),(0,u "checkPair"),(0,u "(II)I"),(0,.integer 2147483648),(0,.methodref 8 118),(0,.nameAndType 119 120),(0,u "simCircuit"),(0,u "(II)V"),(0,.methodref 8 122),(0,.nameAndType 123 115),(0,u "xOf"),(0,.methodref 8 125),(0,.nameAndType 126 127),(0,u "offer"),(0,u "(III)V"),(0,.methodref 8 129),(0,.nameAndType 130 131),(0,u "relaxVia"),(0,u "(I)V"),(0,.methodref 8 133),(0,.nameAndType 134 88),(0,u "relaxPass"),(0,.methodref 8 136),(0,.nameAndType 137 138),(0,u "evalVertex"),(0,u "(III)I"),(0,u "OP_INPUT"),(2,u "OP_ADD"),(1,u "OP_XOR"),(1,u "OP_AND"),(1,u "CIRCUIT_ORIGINAL"),(0,u "CIRCUIT_RETIMED"),(0,u "NO_PATH"),(1,u "ERR_BAD_ARG"),(1,u "ERR_FULL"),(1,u "ERR_EMPTY"),(1,u "ERR_COMB_CYCLE"),(1,u "ERR_NOT_RETIMED"),(1,u "LAG_NONE"),(0,u "MAX_VERTICES"),(1,u "MAX_EDGES"),(1,u "MAX_INPUTS"),(2,u "addVertex"),(1,u "addEdge"),(0,u "retime"),(0,u "edgeCount"),(0,u "originalPeriod"),(0,u "minPeriod"),(0,u "retimedPeriod"),(0,u "regWeight"),(0,u "pathDelay"),(0,u "lag"),(0,u "retimedRegs"),(0,u "feedInput"),(0,u "clearInputs"),(0,u "simulate"),(0,u "output"),(0,u "reset")] 2
def k2c0 : Code:={ maxStack:=2,maxLocals:=1,code:=prog_1_method_1_code,exceptionTable:=#[],attributes:=#[] }
def k2m0 : Method:={ name := "<init>", desc := "()V", sig:={ parameters:=[],returnType:=none },accessFlags:=1,code:=some k2c0 }
def k2c1 : Code:={ maxStack:=3,maxLocals:=4,code:=prog_1_method_2_code,exceptionTable:=#[],attributes:=#[] }
def k2m1 : Method:={ name := "addVertex", desc := "(III)I", sig:={ parameters:=[.int,.int,.int],returnType:=some .int },accessFlags:=1,code:=some k2c1 }
def k2c2 : Code:={ maxStack:=3,maxLocals:=4,code:=prog_1_method_3_code,exceptionTable:=#[],attributes:=#[] }
def k2m2 : Method:={ name := "addEdge", desc := "(III)I", sig:={ parameters:=[.int,.int,.int],returnType:=some .int },accessFlags:=1,code:=some k2c2 }
def k2c3 : Code:={ maxStack:=3,maxLocals:=1,code:=prog_1_method_4_code,exceptionTable:=#[],attributes:=#[] }
def k2m3 : Method:={ name := "retime", desc := "()I", sig:={ parameters:=[],returnType:=some .int },accessFlags:=1,code:=some k2c3 }
def k2c4 : Code:={ maxStack:=1,maxLocals:=1,code:=prog_1_method_5_code,exceptionTable:=#[],attributes:=#[] }
def k2m4 : Method:={ name := "edgeCount", desc := "()I", sig:={ parameters:=[],returnType:=some .int },accessFlags:=1,code:=some k2c4 }
def k2c5 : Code:={ maxStack:=1,maxLocals:=1,code:=prog_1_method_6_code,exceptionTable:=#[],attributes:=#[] }
def k2m5 : Method:={ name := "originalPeriod", desc := "()I", sig:={ parameters:=[],returnType:=some .int },accessFlags:=1,code:=some k2c5 }
def k2c6 : Code:={ maxStack:=1,maxLocals:=1,code:=prog_1_method_7_code,exceptionTable:=#[],attributes:=#[] }
def k2m6 : Method:={ name := "minPeriod", desc := "()I", sig:={ parameters:=[],returnType:=some .int },accessFlags:=1,code:=some k2c6 }
def k2c7 : Code:={ maxStack:=1,maxLocals:=1,code:=prog_1_method_8_code,exceptionTable:=#[],attributes:=#[] }
def k2m7 : Method:={ name := "retimedPeriod", desc := "()I", sig:={ parameters:=[],returnType:=some .int },accessFlags:=1,code:=some k2c7 }
def k2c8 : Code:={ maxStack:=3,maxLocals:=4,code:=prog_1_method_9_code,exceptionTable:=#[],attributes:=#[] }
def k2m8 : Method:={ name := "regWeight", desc := "(II)I", sig:={ parameters:=[.int,.int],returnType:=some .int },accessFlags:=1,code:=some k2c8 }
def k2c9 : Code:={ maxStack:=3,maxLocals:=4,code:=prog_1_method_10_code,exceptionTable:=#[],attributes:=#[] }
def k2m9 : Method:={ name := "pathDelay", desc := "(II)I", sig:={ parameters:=[.int,.int],returnType:=some .int },accessFlags:=1,code:=some k2c9 }
def k2c10 : Code:={ maxStack:=2,maxLocals:=2,code:=prog_1_method_11_code,exceptionTable:=#[],attributes:=#[] }
def k2m10 : Method:={ name := "lag", desc := "(I)I", sig:={ parameters:=[.int],returnType:=some .int },accessFlags:=1,code:=some k2c10 }
def k2c11 : Code:={ maxStack:=2,maxLocals:=2,code:=prog_1_method_12_code,exceptionTable:=#[],attributes:=#[] }
def k2m11 : Method:={ name := "retimedRegs", desc := "(I)I", sig:={ parameters:=[.int],returnType:=some .int },accessFlags:=1,code:=some k2c11 }
def k2c12 : Code:={ maxStack:=3,maxLocals:=2,code:=prog_1_method_13_code,exceptionTable:=#[],attributes:=#[] }
def k2m12 : Method:={ name := "feedInput", desc := "(I)Z", sig:={ parameters:=[.int],returnType:=some .boolean },accessFlags:=1,code:=some k2c12 }
def k2c13 : Code:={ maxStack:=2,maxLocals:=1,code:=prog_1_method_14_code,exceptionTable:=#[],attributes:=#[] }
def k2m13 : Method:={ name := "clearInputs", desc := "()V", sig:={ parameters:=[],returnType:=none },accessFlags:=1,code:=some k2c13 }
def k2c14 : Code:={ maxStack:=3,maxLocals:=2,code:=prog_1_method_15_code,exceptionTable:=#[],attributes:=#[] }
def k2m14 : Method:={ name := "simulate", desc := "()I", sig:={ parameters:=[],returnType:=some .int },accessFlags:=1,code:=some k2c14 }
def k2c15 : Code:={ maxStack:=3,maxLocals:=3,code:=prog_1_method_16_code,exceptionTable:=#[],attributes:=#[] }
def k2m15 : Method:={ name := "output", desc := "(II)I", sig:={ parameters:=[.int,.int],returnType:=some .int },accessFlags:=1,code:=some k2c15 }
def k2c16 : Code:={ maxStack:=2,maxLocals:=1,code:=prog_1_method_17_code,exceptionTable:=#[],attributes:=#[] }
def k2m16 : Method:={ name := "reset", desc := "()V", sig:={ parameters:=[],returnType:=none },accessFlags:=1,code:=some k2c16 }
def k2c17 : Code:={ maxStack:=3,maxLocals:=3,code:=prog_1_method_18_code,exceptionTable:=#[],attributes:=#[] }
def k2m17 : Method:={ name := "checkPair", desc := "(II)I", sig:={ parameters:=[.int,.int],returnType:=some .int },accessFlags:=2,code:=some k2c17 }
def k2c18 : Code:={ maxStack:=2,maxLocals:=3,code:=prog_1_method_19_code,exceptionTable:=#[],attributes:=#[] }
def k2m18 : Method:={ name := "xOf", desc := "(II)I", sig:={ parameters:=[.int,.int],returnType:=some .int },accessFlags:=2,code:=some k2c18 }
def k2c19 : Code:={ maxStack:=4,maxLocals:=7,code:=prog_1_method_20_code,exceptionTable:=#[],attributes:=#[] }
def k2m19 : Method:={ name := "topo", desc := "(I)Z", sig:={ parameters:=[.int],returnType:=some .boolean },accessFlags:=2,code:=some k2c19 }
def k2c20 : Code:={ maxStack:=3,maxLocals:=8,code:=prog_1_method_21_code,exceptionTable:=#[],attributes:=#[] }
def k2m20 : Method:={ name := "period", desc := "(I)I", sig:={ parameters:=[.int],returnType:=some .int },accessFlags:=2,code:=some k2c20 }
def k2c21 : Code:={ maxStack:=3,maxLocals:=4,code:=prog_1_method_22_code,exceptionTable:=#[],attributes:=#[] }
def k2m21 : Method:={ name := "offer", desc := "(III)V", sig:={ parameters:=[.int,.int,.int],returnType:=none },accessFlags:=2,code:=some k2c21 }
def k2c22 : Code:={ maxStack:=6,maxLocals:=3,code:=prog_1_method_23_code,exceptionTable:=#[],attributes:=#[] }
def k2m22 : Method:={ name := "computePairs", desc := "()V", sig:={ parameters:=[],returnType:=none },accessFlags:=2,code:=some k2c22 }
def k2c23 : Code:={ maxStack:=6,maxLocals:=6,code:=prog_1_method_24_code,exceptionTable:=#[],attributes:=#[] }
def k2m23 : Method:={ name := "relaxVia", desc := "(I)V", sig:={ parameters:=[.int],returnType:=none },accessFlags:=2,code:=some k2c23 }
def k2c24 : Code:={ maxStack:=3,maxLocals:=5,code:=prog_1_method_25_code,exceptionTable:=#[],attributes:=#[] }
def k2m24 : Method:={ name := "searchMin", desc := "()I", sig:={ parameters:=[],returnType:=some .int },accessFlags:=2,code:=some k2c24 }
def k2c25 : Code:={ maxStack:=3,maxLocals:=3,code:=prog_1_method_26_code,exceptionTable:=#[],attributes:=#[] }
def k2m25 : Method:={ name := "feasible", desc := "(I)Z", sig:={ parameters:=[.int],returnType:=some .boolean },accessFlags:=2,code:=some k2c25 }
def k2c26 : Code:={ maxStack:=3,maxLocals:=7,code:=prog_1_method_27_code,exceptionTable:=#[],attributes:=#[] }
def k2m26 : Method:={ name := "relaxPass", desc := "(I)Z", sig:={ parameters:=[.int],returnType:=some .boolean },accessFlags:=2,code:=some k2c26 }
def k2c27 : Code:={ maxStack:=6,maxLocals:=2,code:=prog_1_method_28_code,exceptionTable:=#[],attributes:=#[] }
def k2m27 : Method:={ name := "applyLags", desc := "()V", sig:={ parameters:=[],returnType:=none },accessFlags:=2,code:=some k2c27 }
def k2c28 : Code:={ maxStack:=6,maxLocals:=6,code:=prog_1_method_29_code,exceptionTable:=#[],attributes:=#[] }
def k2m28 : Method:={ name := "simCircuit", desc := "(II)V", sig:={ parameters:=[.int,.int],returnType:=none },accessFlags:=2,code:=some k2c28 }
def k2c29 : Code:={ maxStack:=4,maxLocals:=9,code:=prog_1_method_30_code,exceptionTable:=#[],attributes:=#[] }
def k2m29 : Method:={ name := "evalVertex", desc := "(III)I", sig:={ parameters:=[.int,.int,.int],returnType:=some .int },accessFlags:=2,code:=some k2c29 }
/-- RetimingEngine -/
def k2 : Class:={ plain "RetimingEngine" (some 0) with
  accessFlags:=49
  interfaces:=#[]
  cf:=some (fileOf pool2 8 #[] #[{ accessFlags:=1,nameIndex:=5,descriptorIndex:=6,attributes:=#[] },{ accessFlags:=1,nameIndex:=170,descriptorIndex:=138,attributes:=#[] },{ accessFlags:=1,nameIndex:=172,descriptorIndex:=138,attributes:=#[] },{ accessFlags:=1,nameIndex:=173,descriptorIndex:=102,attributes:=#[] },{ accessFlags:=1,nameIndex:=174,descriptorIndex:=102,attributes:=#[] },{ accessFlags:=1,nameIndex:=175,descriptorIndex:=102,attributes:=#[] },{ accessFlags:=1,nameIndex:=176,descriptorIndex:=102,attributes:=#[] },{ accessFlags:=1,nameIndex:=177,descriptorIndex:=102,attributes:=#[] },{ accessFlags:=1,nameIndex:=178,descriptorIndex:=115,attributes:=#[] },{ accessFlags:=1,nameIndex:=179,descriptorIndex:=115,attributes:=#[] },{ accessFlags:=1,nameIndex:=180,descriptorIndex:=92,attributes:=#[] },{ accessFlags:=1,nameIndex:=181,descriptorIndex:=92,attributes:=#[] },{ accessFlags:=1,nameIndex:=182,descriptorIndex:=88,attributes:=#[] },{ accessFlags:=1,nameIndex:=183,descriptorIndex:=6,attributes:=#[] },{ accessFlags:=1,nameIndex:=184,descriptorIndex:=102,attributes:=#[] },{ accessFlags:=1,nameIndex:=185,descriptorIndex:=115,attributes:=#[] },{ accessFlags:=1,nameIndex:=186,descriptorIndex:=6,attributes:=#[] },{ accessFlags:=2,nameIndex:=114,descriptorIndex:=115,attributes:=#[] },{ accessFlags:=2,nameIndex:=123,descriptorIndex:=115,attributes:=#[] },{ accessFlags:=2,nameIndex:=87,descriptorIndex:=88,attributes:=#[] },{ accessFlags:=2,nameIndex:=91,descriptorIndex:=92,attributes:=#[] },{ accessFlags:=2,nameIndex:=126,descriptorIndex:=127,attributes:=#[] },{ accessFlags:=2,nameIndex:=98,descriptorIndex:=6,attributes:=#[] },{ accessFlags:=2,nameIndex:=130,descriptorIndex:=131,attributes:=#[] },{ accessFlags:=2,nameIndex:=101,descriptorIndex:=102,attributes:=#[] },{ accessFlags:=2,nameIndex:=105,descriptorIndex:=88,attributes:=#[] },{ accessFlags:=2,nameIndex:=134,descriptorIndex:=88,attributes:=#[] },{ accessFlags:=2,nameIndex:=108,descriptorIndex:=6,attributes:=#[] },{ accessFlags:=2,nameIndex:=119,descriptorIndex:=120,attributes:=#[] },{ accessFlags:=2,nameIndex:=137,descriptorIndex:=138,attributes:=#[] }] 49 2 #[] #[{ accessFlags:=25,nameIndex:=139,descriptorIndex:=68,attributes:=#[] },{ accessFlags:=25,nameIndex:=142,descriptorIndex:=68,attributes:=#[] },{ accessFlags:=25,nameIndex:=144,descriptorIndex:=68,attributes:=#[] },{ accessFlags:=25,nameIndex:=146,descriptorIndex:=68,attributes:=#[] },{ accessFlags:=25,nameIndex:=148,descriptorIndex:=68,attributes:=#[] },{ accessFlags:=25,nameIndex:=149,descriptorIndex:=68,attributes:=#[] },{ accessFlags:=25,nameIndex:=150,descriptorIndex:=68,attributes:=#[] },{ accessFlags:=25,nameIndex:=152,descriptorIndex:=68,attributes:=#[] },{ accessFlags:=25,nameIndex:=154,descriptorIndex:=68,attributes:=#[] },{ accessFlags:=25,nameIndex:=156,descriptorIndex:=68,attributes:=#[] },{ accessFlags:=25,nameIndex:=158,descriptorIndex:=68,attributes:=#[] },{ accessFlags:=25,nameIndex:=160,descriptorIndex:=68,attributes:=#[] },{ accessFlags:=25,nameIndex:=162,descriptorIndex:=68,attributes:=#[] },{ accessFlags:=25,nameIndex:=163,descriptorIndex:=68,attributes:=#[] },{ accessFlags:=25,nameIndex:=165,descriptorIndex:=68,attributes:=#[] },{ accessFlags:=25,nameIndex:=167,descriptorIndex:=68,attributes:=#[] },{ accessFlags:=2,nameIndex:=67,descriptorIndex:=68,attributes:=#[] },{ accessFlags:=2,nameIndex:=71,descriptorIndex:=68,attributes:=#[] },{ accessFlags:=2,nameIndex:=11,descriptorIndex:=12,attributes:=#[] },{ accessFlags:=2,nameIndex:=15,descriptorIndex:=12,attributes:=#[] },{ accessFlags:=2,nameIndex:=18,descriptorIndex:=12,attributes:=#[] },{ accessFlags:=2,nameIndex:=21,descriptorIndex:=12,attributes:=#[] },{ accessFlags:=2,nameIndex:=24,descriptorIndex:=12,attributes:=#[] },{ accessFlags:=2,nameIndex:=27,descriptorIndex:=12,attributes:=#[] },{ accessFlags:=2,nameIndex:=30,descriptorIndex:=12,attributes:=#[] },{ accessFlags:=2,nameIndex:=33,descriptorIndex:=12,attributes:=#[] },{ accessFlags:=2,nameIndex:=74,descriptorIndex:=68,attributes:=#[] },{ accessFlags:=2,nameIndex:=77,descriptorIndex:=68,attributes:=#[] },{ accessFlags:=2,nameIndex:=36,descriptorIndex:=12,attributes:=#[] },{ accessFlags:=2,nameIndex:=80,descriptorIndex:=81,attributes:=#[] },{ accessFlags:=2,nameIndex:=84,descriptorIndex:=68,attributes:=#[] },{ accessFlags:=2,nameIndex:=95,descriptorIndex:=68,attributes:=#[] },{ accessFlags:=2,nameIndex:=111,descriptorIndex:=68,attributes:=#[] },{ accessFlags:=2,nameIndex:=39,descriptorIndex:=12,attributes:=#[] },{ accessFlags:=2,nameIndex:=42,descriptorIndex:=12,attributes:=#[] },{ accessFlags:=2,nameIndex:=45,descriptorIndex:=46,attributes:=#[] },{ accessFlags:=2,nameIndex:=49,descriptorIndex:=12,attributes:=#[] },{ accessFlags:=2,nameIndex:=52,descriptorIndex:=12,attributes:=#[] },{ accessFlags:=2,nameIndex:=55,descriptorIndex:=12,attributes:=#[] },{ accessFlags:=2,nameIndex:=58,descriptorIndex:=12,attributes:=#[] },{ accessFlags:=2,nameIndex:=61,descriptorIndex:=12,attributes:=#[] },{ accessFlags:=2,nameIndex:=64,descriptorIndex:=12,attributes:=#[] }])
  fields:=#[{ name := "OP_INPUT", type:=.int,accessFlags:=25,slot:=0,constantValue:=0 },{ name := "OP_ADD", type:=.int,accessFlags:=25,slot:=1,constantValue:=0 },{ name := "OP_XOR", type:=.int,accessFlags:=25,slot:=2,constantValue:=0 },{ name := "OP_AND", type:=.int,accessFlags:=25,slot:=3,constantValue:=0 },{ name := "CIRCUIT_ORIGINAL", type:=.int,accessFlags:=25,slot:=4,constantValue:=0 },{ name := "CIRCUIT_RETIMED", type:=.int,accessFlags:=25,slot:=5,constantValue:=0 },{ name := "NO_PATH", type:=.int,accessFlags:=25,slot:=6,constantValue:=0 },{ name := "ERR_BAD_ARG", type:=.int,accessFlags:=25,slot:=7,constantValue:=0 },{ name := "ERR_FULL", type:=.int,accessFlags:=25,slot:=8,constantValue:=0 },{ name := "ERR_EMPTY", type:=.int,accessFlags:=25,slot:=9,constantValue:=0 },{ name := "ERR_COMB_CYCLE", type:=.int,accessFlags:=25,slot:=10,constantValue:=0 },{ name := "ERR_NOT_RETIMED", type:=.int,accessFlags:=25,slot:=11,constantValue:=0 },{ name := "LAG_NONE", type:=.int,accessFlags:=25,slot:=12,constantValue:=0 },{ name := "MAX_VERTICES", type:=.int,accessFlags:=25,slot:=13,constantValue:=0 },{ name := "MAX_EDGES", type:=.int,accessFlags:=25,slot:=14,constantValue:=0 },{ name := "MAX_INPUTS", type:=.int,accessFlags:=25,slot:=15,constantValue:=0 },{ name := "n", type:=.int,accessFlags:=2,slot:=0,constantValue:=0 },{ name := "m", type:=.int,accessFlags:=2,slot:=1,constantValue:=0 },{ name := "vop", type:=(.array .int),accessFlags:=2,slot:=2,constantValue:=0 },{ name := "vdel", type:=(.array .int),accessFlags:=2,slot:=3,constantValue:=0 },{ name := "vk", type:=(.array .int),accessFlags:=2,slot:=4,constantValue:=0 },{ name := "esrc", type:=(.array .int),accessFlags:=2,slot:=5,constantValue:=0 },{ name := "edst", type:=(.array .int),accessFlags:=2,slot:=6,constantValue:=0 },{ name := "ereg", type:=(.array .int),accessFlags:=2,slot:=7,constantValue:=0 },{ name := "enew", type:=(.array .int),accessFlags:=2,slot:=8,constantValue:=0 },{ name := "inputs", type:=(.array .int),accessFlags:=2,slot:=9,constantValue:=0 },{ name := "inCount", type:=.int,accessFlags:=2,slot:=10,constantValue:=0 },{ name := "sim", type:=.int,accessFlags:=2,slot:=11,constantValue:=0 },{ name := "outs", type:=(.array .int),accessFlags:=2,slot:=12,constantValue:=0 },{ name := "retimed", type:=.boolean,accessFlags:=2,slot:=13,constantValue:=0 },{ name := "pmin", type:=.int,accessFlags:=2,slot:=14,constantValue:=0 },{ name := "origPeriod", type:=.int,accessFlags:=2,slot:=15,constantValue:=0 },{ name := "retPeriod", type:=.int,accessFlags:=2,slot:=16,constantValue:=0 },{ name := "wt", type:=(.array .int),accessFlags:=2,slot:=17,constantValue:=0 },{ name := "dd", type:=(.array .int),accessFlags:=2,slot:=18,constantValue:=0 },{ name := "reach", type:=(.array .boolean),accessFlags:=2,slot:=19,constantValue:=0 },{ name := "dist", type:=(.array .int),accessFlags:=2,slot:=20,constantValue:=0 },{ name := "lagv", type:=(.array .int),accessFlags:=2,slot:=21,constantValue:=0 },{ name := "order", type:=(.array .int),accessFlags:=2,slot:=22,constantValue:=0 },{ name := "indeg", type:=(.array .int),accessFlags:=2,slot:=23,constantValue:=0 },{ name := "arr", type:=(.array .int),accessFlags:=2,slot:=24,constantValue:=0 },{ name := "sval", type:=(.array .int),accessFlags:=2,slot:=25,constantValue:=0 }]
  methods:=#[k2m0,k2m1,k2m2,k2m3,k2m4,k2m5,k2m6,k2m7,k2m8,k2m9,k2m10,k2m11,k2m12,k2m13,k2m14,k2m15,k2m16,k2m17,k2m18,k2m19,k2m20,k2m21,k2m22,k2m23,k2m24,k2m25,k2m26,k2m27,k2m28,k2m29]
  instanceTypes:=#[.int,.int,(.array .int),(.array .int),(.array .int),(.array .int),(.array .int),(.array .int),(.array .int),(.array .int),.int,.int,(.array .int),.boolean,.int,.int,.int,(.array .int),(.array .int),(.array .boolean),(.array .int),(.array .int),(.array .int),(.array .int),(.array .int),(.array .int)]
  staticTypes:=#[.int,.int,.int,.int,.int,.int,.int,.int,.int,.int,.int,.int,.int,.int,.int,.int]
  resolved:=Array.replicate 189 none
  statics:=none }
def pool3 : Array CpInfo:=pool [(1,u "java/lang/Cloneable"),(0,.class_ 1),(0,u "java/lang/Object"),(0,.class_ 3)] 3
/-- java/lang/Cloneable -/
def k3 : Class:={ plain "java/lang/Cloneable" (some 0) with
  accessFlags:=1537
  interfaces:=#[]
  cf:=some (fileOf pool3 2 #[] #[] 1537 4 #[] #[])
  fields:=#[]
  methods:=#[]
  instanceTypes:=#[]
  staticTypes:=#[]
  resolved:=Array.replicate 8 none
  statics:=none }
def pool4 : Array CpInfo:=pool [(1,u "java/io/Serializable"),(0,.class_ 1),(0,u "java/lang/Object"),(0,.class_ 3)] 3
/-- java/io/Serializable -/
def k4 : Class:={ plain "java/io/Serializable" (some 0) with
  accessFlags:=1537
  interfaces:=#[]
  cf:=some (fileOf pool4 2 #[] #[] 1537 4 #[] #[])
  fields:=#[]
  methods:=#[]
  instanceTypes:=#[]
  staticTypes:=#[]
  resolved:=Array.replicate 8 none
  statics:=none }
/-- the primitive boolean -/
def k5 : Class:={ plain "boolean" none with kind:=.primitive 'Z',accessFlags:=0x411 }
/-- [Z -/
def k6 : Class:={ plain "[Z" (some 0) with kind:=.array 5 .boolean,interfaces:=#[3,4],accessFlags:=1041 }
/-- the primitive byte -/
def k7 : Class:={ plain "byte" none with kind:=.primitive 'B',accessFlags:=0x411 }
/-- [B -/
def k8 : Class:={ plain "[B" (some 0) with kind:=.array 7 .byte,interfaces:=#[3,4],accessFlags:=1041 }
/-- the primitive int -/
def k9 : Class:={ plain "int" none with kind:=.primitive 'I',accessFlags:=0x411 }
/-- [I -/
def k10 : Class:={ plain "[I" (some 0) with kind:=.array 9 .int,interfaces:=#[3,4],accessFlags:=1041 }
def heap : Heap:=#[{ cls:=10,slots:=#[.int 0,.int 1],vm:=.none }]
def classes : Array Class:=#[k0,k1,k2,k3,k4,k5,k6,k7,k8,k9,k10]
def interned : List (Array UInt16 × Addr):=[]
def slotsUsed : Nat:=2
def theMethod : MethodId:=⟨1,1⟩
def args0 : Array Value:=#[.ref 0]
def aboutOver (below : List Frame) : State where
  vm:={ classes:=classes,interned:=interned.toArray }
  heap:=heap
  slotsUsed:=slotsUsed
  threads:=#[{ frames:=.invoking theMethod args0::below }]
def below0 : List Frame:=[.native { method:=⟨0,0⟩,args:=#[] }]
def about1 : State:=aboutOver below0
def p0 : Program:=.bare "" "" ""
def e0 : Env:=launch0.env 0 0 0
theorem w_frames : about1.frames = Frame.invoking theMethod args0::below0:=rfl
set_option maxRecDepth 65536 in
theorem w_args : argsFit about1.vm theMethod args0 = true:=by decide +kernel
set_option maxRecDepth 65536 in
theorem w_heap : heapFits about1 = true:=by decide +kernel
set_option maxRecDepth 65536 in
theorem w_runnable : about1.curStatus? = some .runnable:=by decide +kernel
set_option maxRecDepth 65536 in
theorem w_alone : about1.alone = true:=by decide +kernel
set_option maxRecDepth 65536 in
theorem w_named : about1.methodNamed? x = some theMethod:=by decide +kernel
set_option maxRecDepth 65536 in
theorem w_hears : about1.hears theMethod below0 = true:=by decide +kernel
set_option maxRecDepth 65536 in
theorem w_ripe : about1.ripe theMethod args0 below0 = true:=by decide +kernel
theorem w_running : about1.status = .running:=rfl
set_option maxRecDepth 65536 in
theorem w_room : about1.hasRoom e0.platform room_1 = true :=
  launch0.hasRoom_least _ room_1 (by decide +kernel) (by decide +kernel) (by decide +kernel) (by decide +kernel) (by decide +kernel) (by decide +kernel)
theorem allAtoms_all (ts : List Jvm.Cond) (a : Array Jvm.Value) (st : Jvm.State) : (allAtoms ts).before a st = ts.all (fun c => c.before a st):=by
  induction ts with
  | nil => rfl
  | cons c t ih =>
    show (Jvm.Cond.and c (allAtoms t)).before a st = _
    rw [Jvm.Cond.before_and,ih,List.all_cons]
def words1 : List Jvm.Cond:=Jvm.Cond.code x code maxLocals ret::tables_1
/-- a 'code' word, met by the world's own term for the bytes: nothing is compared byte by byte -/
theorem code_word {y : MethodName} {bytes : ByteArray} {mx : Nat} {rt : Option FieldType} {a : Array Value} {s : State} {m : MethodId} {meth : Method} {c : Code} (h1 : s.methodNamed? y = some m) (h2 : s.vm.method? m = some meth) (h3 : meth.code = some c) (h4 : c.code = bytes)
    (h5 : (c.maxLocals == mx && c.exceptionTable.isEmpty && decide (c.maxStack≤mostOperands) && decide (meth.sig.returnType = rt) && !meth.locks && decide (parseMethodDescriptor y.desc = some meth.sig)) = true) : (Jvm.Cond.code y bytes mx rt).before a s = true:=by
  simp only [Bool.and_eq_true,beq_iff_eq,Bool.not_eq_true',decide_eq_true_eq] at h5
  obtain ⟨⟨⟨⟨⟨g1,g2⟩,g3⟩,g4⟩,g5⟩,g6⟩:=h5
  simp [Cond.before,Cond.holds,Cond.value,h1,h2,h3,h4,g1,g2,g3,g4,g5,g6]
def isCode : Jvm.Cond→Bool
  | .code _ _ _ _ => true
  | _ => false
theorem all_split {L : List Jvm.Cond} {P : Jvm.Cond→Bool} (h1 : L.all (fun c => isCode c || P c) = true) (h2 : ∀ c ∈ L.filter isCode,P c = true) : L.all P = true:=by
  refine List.all_eq_true.mpr fun c hc => ?_
  have h:=List.all_eq_true.mp h1 c hc
  rcases Bool.eq_false_or_eq_true (isCode c) with hi | hi
  · exact h2 c (List.mem_filter.mpr ⟨hc,hi⟩)
  · simpa [hi] using h
set_option maxRecDepth 65536 in
theorem w_c0 : (Jvm.Cond.code x code maxLocals ret).before args0 about1 = true:=code_word (m:=⟨1,1⟩) (meth:=k1m1) (c:=k1c1) (by decide +kernel) rfl rfl rfl (by decide +kernel)
set_option maxRecDepth 65536 in
theorem w_c1 : (Jvm.Cond.code ({ cls := "RetimingEngine", name := "<init>", desc := "()V" } : Jvm.MethodName) prog_1_method_1_code (1 : Nat) (Option.none : Option Jvm.ClassFile.FieldType)).before args0 about1 = true:=code_word (m:=⟨2,0⟩) (meth:=k2m0) (c:=k2c0) (by decide +kernel) rfl rfl rfl (by decide +kernel)
set_option maxRecDepth 65536 in
theorem w_c2 : (Jvm.Cond.code ({ cls := "java/lang/Object", name := "<init>", desc := "()V" } : Jvm.MethodName) object_method_1_code (1 : Nat) (Option.none : Option Jvm.ClassFile.FieldType)).before args0 about1 = true:=code_word (m:=⟨0,0⟩) (meth:=k0m0) (c:=k0c0) (by decide +kernel) rfl rfl rfl (by decide +kernel)
set_option maxRecDepth 65536 in
theorem w_c3 : (Jvm.Cond.code ({ cls := "RetimingEngineL5", name := "run", desc := "(LRetimingEngine;[I)V" } : Jvm.MethodName) method_3_code (4 : Nat) (Option.none : Option Jvm.ClassFile.FieldType)).before args0 about1 = true:=code_word (m:=⟨1,2⟩) (meth:=k1m2) (c:=k1c2) (by decide +kernel) rfl rfl rfl (by decide +kernel)
set_option maxRecDepth 65536 in
theorem w_c4 : (Jvm.Cond.code ({ cls := "RetimingEngine", name := "feedInput", desc := "(I)Z" } : Jvm.MethodName) prog_1_method_13_code (2 : Nat) (Option.some Jvm.ClassFile.FieldType.boolean)).before args0 about1 = true:=code_word (m:=⟨2,12⟩) (meth:=k2m12) (c:=k2c12) (by decide +kernel) rfl rfl rfl (by decide +kernel)
set_option maxRecDepth 65536 in
theorem w_c5 : (Jvm.Cond.code ({ cls := "RetimingEngine", name := "addEdge", desc := "(III)I" } : Jvm.MethodName) prog_1_method_3_code (4 : Nat) (Option.some Jvm.ClassFile.FieldType.int)).before args0 about1 = true:=code_word (m:=⟨2,2⟩) (meth:=k2m2) (c:=k2c2) (by decide +kernel) rfl rfl rfl (by decide +kernel)
set_option maxRecDepth 65536 in
theorem w_c6 : (Jvm.Cond.code ({ cls := "RetimingEngine", name := "addVertex", desc := "(III)I" } : Jvm.MethodName) prog_1_method_2_code (4 : Nat) (Option.some Jvm.ClassFile.FieldType.int)).before args0 about1 = true:=code_word (m:=⟨2,1⟩) (meth:=k2m1) (c:=k2c1) (by decide +kernel) rfl rfl rfl (by decide +kernel)
set_option maxRecDepth 65536 in
theorem w_c7 : (Jvm.Cond.code ({ cls := "RetimingEngine", name := "retime", desc := "()I" } : Jvm.MethodName) prog_1_method_4_code (1 : Nat) (Option.some Jvm.ClassFile.FieldType.int)).before args0 about1 = true:=code_word (m:=⟨2,3⟩) (meth:=k2m3) (c:=k2c3) (by decide +kernel) rfl rfl rfl (by decide +kernel)
set_option maxRecDepth 65536 in
theorem w_c8 : (Jvm.Cond.code ({ cls := "RetimingEngine", name := "topo", desc := "(I)Z" } : Jvm.MethodName) prog_1_method_20_code (7 : Nat) (Option.some Jvm.ClassFile.FieldType.boolean)).before args0 about1 = true:=code_word (m:=⟨2,19⟩) (meth:=k2m19) (c:=k2c19) (by decide +kernel) rfl rfl rfl (by decide +kernel)
set_option maxRecDepth 65536 in
theorem w_c9 : (Jvm.Cond.code ({ cls := "RetimingEngine", name := "period", desc := "(I)I" } : Jvm.MethodName) prog_1_method_21_code (8 : Nat) (Option.some Jvm.ClassFile.FieldType.int)).before args0 about1 = true:=code_word (m:=⟨2,20⟩) (meth:=k2m20) (c:=k2c20) (by decide +kernel) rfl rfl rfl (by decide +kernel)
set_option maxRecDepth 65536 in
theorem w_c10 : (Jvm.Cond.code ({ cls := "RetimingEngine", name := "computePairs", desc := "()V" } : Jvm.MethodName) prog_1_method_23_code (3 : Nat) (Option.none : Option Jvm.ClassFile.FieldType)).before args0 about1 = true:=code_word (m:=⟨2,22⟩) (meth:=k2m22) (c:=k2c22) (by decide +kernel) rfl rfl rfl (by decide +kernel)
set_option maxRecDepth 65536 in
theorem w_c11 : (Jvm.Cond.code ({ cls := "RetimingEngine", name := "relaxVia", desc := "(I)V" } : Jvm.MethodName) prog_1_method_24_code (6 : Nat) (Option.none : Option Jvm.ClassFile.FieldType)).before args0 about1 = true:=code_word (m:=⟨2,23⟩) (meth:=k2m23) (c:=k2c23) (by decide +kernel) rfl rfl rfl (by decide +kernel)
set_option maxRecDepth 65536 in
theorem w_c12 : (Jvm.Cond.code ({ cls := "RetimingEngine", name := "offer", desc := "(III)V" } : Jvm.MethodName) prog_1_method_22_code (4 : Nat) (Option.none : Option Jvm.ClassFile.FieldType)).before args0 about1 = true:=code_word (m:=⟨2,21⟩) (meth:=k2m21) (c:=k2c21) (by decide +kernel) rfl rfl rfl (by decide +kernel)
set_option maxRecDepth 65536 in
theorem w_c13 : (Jvm.Cond.code ({ cls := "RetimingEngine", name := "searchMin", desc := "()I" } : Jvm.MethodName) prog_1_method_25_code (5 : Nat) (Option.some Jvm.ClassFile.FieldType.int)).before args0 about1 = true:=code_word (m:=⟨2,24⟩) (meth:=k2m24) (c:=k2c24) (by decide +kernel) rfl rfl rfl (by decide +kernel)
set_option maxRecDepth 65536 in
theorem w_c14 : (Jvm.Cond.code ({ cls := "RetimingEngine", name := "feasible", desc := "(I)Z" } : Jvm.MethodName) prog_1_method_26_code (3 : Nat) (Option.some Jvm.ClassFile.FieldType.boolean)).before args0 about1 = true:=code_word (m:=⟨2,25⟩) (meth:=k2m25) (c:=k2c25) (by decide +kernel) rfl rfl rfl (by decide +kernel)
set_option maxRecDepth 65536 in
theorem w_c15 : (Jvm.Cond.code ({ cls := "RetimingEngine", name := "relaxPass", desc := "(I)Z" } : Jvm.MethodName) prog_1_method_27_code (7 : Nat) (Option.some Jvm.ClassFile.FieldType.boolean)).before args0 about1 = true:=code_word (m:=⟨2,26⟩) (meth:=k2m26) (c:=k2c26) (by decide +kernel) rfl rfl rfl (by decide +kernel)
set_option maxRecDepth 65536 in
theorem w_c16 : (Jvm.Cond.code ({ cls := "RetimingEngine", name := "applyLags", desc := "()V" } : Jvm.MethodName) prog_1_method_28_code (2 : Nat) (Option.none : Option Jvm.ClassFile.FieldType)).before args0 about1 = true:=code_word (m:=⟨2,27⟩) (meth:=k2m27) (c:=k2c27) (by decide +kernel) rfl rfl rfl (by decide +kernel)
set_option maxRecDepth 65536 in
theorem w_c17 : (Jvm.Cond.code ({ cls := "RetimingEngine", name := "xOf", desc := "(II)I" } : Jvm.MethodName) prog_1_method_19_code (3 : Nat) (Option.some Jvm.ClassFile.FieldType.int)).before args0 about1 = true:=code_word (m:=⟨2,18⟩) (meth:=k2m18) (c:=k2c18) (by decide +kernel) rfl rfl rfl (by decide +kernel)
set_option maxRecDepth 65536 in
theorem w_c18 : (Jvm.Cond.code ({ cls := "RetimingEngine", name := "reset", desc := "()V" } : Jvm.MethodName) prog_1_method_17_code (1 : Nat) (Option.none : Option Jvm.ClassFile.FieldType)).before args0 about1 = true:=code_word (m:=⟨2,16⟩) (meth:=k2m16) (c:=k2c16) (by decide +kernel) rfl rfl rfl (by decide +kernel)
set_option maxRecDepth 65536 in
theorem w_c19 : (Jvm.Cond.code ({ cls := "RetimingEngineL5", name := "same", desc := "(LRetimingEngine;LRetimingEngine;)Z" } : Jvm.MethodName) method_4_code (6 : Nat) (Option.some Jvm.ClassFile.FieldType.boolean)).before args0 about1 = true:=code_word (m:=⟨1,3⟩) (meth:=k1m3) (c:=k1c3) (by decide +kernel) rfl rfl rfl (by decide +kernel)
set_option maxRecDepth 65536 in
theorem w_c20 : (Jvm.Cond.code ({ cls := "RetimingEngine", name := "edgeCount", desc := "()I" } : Jvm.MethodName) prog_1_method_5_code (1 : Nat) (Option.some Jvm.ClassFile.FieldType.int)).before args0 about1 = true:=code_word (m:=⟨2,4⟩) (meth:=k2m4) (c:=k2c4) (by decide +kernel) rfl rfl rfl (by decide +kernel)
set_option maxRecDepth 65536 in
theorem w_c21 : (Jvm.Cond.code ({ cls := "RetimingEngine", name := "minPeriod", desc := "()I" } : Jvm.MethodName) prog_1_method_7_code (1 : Nat) (Option.some Jvm.ClassFile.FieldType.int)).before args0 about1 = true:=code_word (m:=⟨2,6⟩) (meth:=k2m6) (c:=k2c6) (by decide +kernel) rfl rfl rfl (by decide +kernel)
set_option maxRecDepth 65536 in
theorem w_c22 : (Jvm.Cond.code ({ cls := "RetimingEngine", name := "originalPeriod", desc := "()I" } : Jvm.MethodName) prog_1_method_6_code (1 : Nat) (Option.some Jvm.ClassFile.FieldType.int)).before args0 about1 = true:=code_word (m:=⟨2,5⟩) (meth:=k2m5) (c:=k2c5) (by decide +kernel) rfl rfl rfl (by decide +kernel)
set_option maxRecDepth 65536 in
theorem w_c23 : (Jvm.Cond.code ({ cls := "RetimingEngine", name := "retimedPeriod", desc := "()I" } : Jvm.MethodName) prog_1_method_8_code (1 : Nat) (Option.some Jvm.ClassFile.FieldType.int)).before args0 about1 = true:=code_word (m:=⟨2,7⟩) (meth:=k2m7) (c:=k2c7) (by decide +kernel) rfl rfl rfl (by decide +kernel)
set_option maxRecDepth 65536 in
theorem w_c24 : (Jvm.Cond.code ({ cls := "RetimingEngine", name := "lag", desc := "(I)I" } : Jvm.MethodName) prog_1_method_11_code (2 : Nat) (Option.some Jvm.ClassFile.FieldType.int)).before args0 about1 = true:=code_word (m:=⟨2,10⟩) (meth:=k2m10) (c:=k2c10) (by decide +kernel) rfl rfl rfl (by decide +kernel)
set_option maxRecDepth 65536 in
theorem w_c25 : (Jvm.Cond.code ({ cls := "RetimingEngine", name := "retimedRegs", desc := "(I)I" } : Jvm.MethodName) prog_1_method_12_code (2 : Nat) (Option.some Jvm.ClassFile.FieldType.int)).before args0 about1 = true:=code_word (m:=⟨2,11⟩) (meth:=k2m11) (c:=k2c11) (by decide +kernel) rfl rfl rfl (by decide +kernel)
set_option maxRecDepth 65536 in
theorem w_c26 : (Jvm.Cond.code ({ cls := "RetimingEngine", name := "regWeight", desc := "(II)I" } : Jvm.MethodName) prog_1_method_9_code (4 : Nat) (Option.some Jvm.ClassFile.FieldType.int)).before args0 about1 = true:=code_word (m:=⟨2,8⟩) (meth:=k2m8) (c:=k2c8) (by decide +kernel) rfl rfl rfl (by decide +kernel)
set_option maxRecDepth 65536 in
theorem w_c27 : (Jvm.Cond.code ({ cls := "RetimingEngine", name := "checkPair", desc := "(II)I" } : Jvm.MethodName) prog_1_method_18_code (3 : Nat) (Option.some Jvm.ClassFile.FieldType.int)).before args0 about1 = true:=code_word (m:=⟨2,17⟩) (meth:=k2m17) (c:=k2c17) (by decide +kernel) rfl rfl rfl (by decide +kernel)
set_option maxRecDepth 65536 in
theorem w_c28 : (Jvm.Cond.code ({ cls := "RetimingEngine", name := "pathDelay", desc := "(II)I" } : Jvm.MethodName) prog_1_method_10_code (4 : Nat) (Option.some Jvm.ClassFile.FieldType.int)).before args0 about1 = true:=code_word (m:=⟨2,9⟩) (meth:=k2m9) (c:=k2c9) (by decide +kernel) rfl rfl rfl (by decide +kernel)
set_option maxRecDepth 65536 in
theorem w_c29 : (Jvm.Cond.code ({ cls := "RetimingEngine", name := "output", desc := "(II)I" } : Jvm.MethodName) prog_1_method_16_code (3 : Nat) (Option.some Jvm.ClassFile.FieldType.int)).before args0 about1 = true:=code_word (m:=⟨2,15⟩) (meth:=k2m15) (c:=k2c15) (by decide +kernel) rfl rfl rfl (by decide +kernel)
set_option maxRecDepth 65536 in
theorem w_c30 : (Jvm.Cond.code ({ cls := "RetimingEngine", name := "simulate", desc := "()I" } : Jvm.MethodName) prog_1_method_15_code (2 : Nat) (Option.some Jvm.ClassFile.FieldType.int)).before args0 about1 = true:=code_word (m:=⟨2,14⟩) (meth:=k2m14) (c:=k2c14) (by decide +kernel) rfl rfl rfl (by decide +kernel)
set_option maxRecDepth 65536 in
theorem w_c31 : (Jvm.Cond.code ({ cls := "RetimingEngine", name := "clearInputs", desc := "()V" } : Jvm.MethodName) prog_1_method_14_code (1 : Nat) (Option.none : Option Jvm.ClassFile.FieldType)).before args0 about1 = true:=code_word (m:=⟨2,13⟩) (meth:=k2m13) (c:=k2c13) (by decide +kernel) rfl rfl rfl (by decide +kernel)
set_option maxRecDepth 65536 in
theorem w_c32 : (Jvm.Cond.code ({ cls := "RetimingEngine", name := "simCircuit", desc := "(II)V" } : Jvm.MethodName) prog_1_method_29_code (6 : Nat) (Option.none : Option Jvm.ClassFile.FieldType)).before args0 about1 = true:=code_word (m:=⟨2,28⟩) (meth:=k2m28) (c:=k2c28) (by decide +kernel) rfl rfl rfl (by decide +kernel)
set_option maxRecDepth 65536 in
theorem w_c33 : (Jvm.Cond.code ({ cls := "RetimingEngine", name := "evalVertex", desc := "(III)I" } : Jvm.MethodName) prog_1_method_30_code (9 : Nat) (Option.some Jvm.ClassFile.FieldType.int)).before args0 about1 = true:=code_word (m:=⟨2,29⟩) (meth:=k2m29) (c:=k2c29) (by decide +kernel) rfl rfl rfl (by decide +kernel)
def codes1 : List Jvm.Cond:=[Jvm.Cond.code x code maxLocals ret,Jvm.Cond.code ({ cls := "RetimingEngine", name := "<init>", desc := "()V" } : Jvm.MethodName) prog_1_method_1_code (1 : Nat) (Option.none : Option Jvm.ClassFile.FieldType),Jvm.Cond.code ({ cls := "java/lang/Object", name := "<init>", desc := "()V" } : Jvm.MethodName) object_method_1_code (1 : Nat) (Option.none : Option Jvm.ClassFile.FieldType),Jvm.Cond.code ({ cls := "RetimingEngineL5", name := "run", desc := "(LRetimingEngine;[I)V" } : Jvm.MethodName) method_3_code (4 : Nat) (Option.none : Option Jvm.ClassFile.FieldType),Jvm.Cond.code ({ cls := "RetimingEngine", name := "feedInput", desc := "(I)Z" } : Jvm.MethodName) prog_1_method_13_code (2 : Nat) (Option.some Jvm.ClassFile.FieldType.boolean),Jvm.Cond.code ({ cls := "RetimingEngine", name := "addEdge", desc := "(III)I" } : Jvm.MethodName) prog_1_method_3_code (4 : Nat) (Option.some Jvm.ClassFile.FieldType.int),Jvm.Cond.code ({ cls := "RetimingEngine", name := "addVertex", desc := "(III)I" } : Jvm.MethodName) prog_1_method_2_code (4 : Nat) (Option.some Jvm.ClassFile.FieldType.int),Jvm.Cond.code ({ cls := "RetimingEngine", name := "retime", desc := "()I" } : Jvm.MethodName) prog_1_method_4_code (1 : Nat) (Option.some Jvm.ClassFile.FieldType.int),Jvm.Cond.code ({ cls := "RetimingEngine", name := "topo", desc := "(I)Z" } : Jvm.MethodName) prog_1_method_20_code (7 : Nat) (Option.some Jvm.ClassFile.FieldType.boolean),Jvm.Cond.code ({ cls := "RetimingEngine", name := "period", desc := "(I)I" } : Jvm.MethodName) prog_1_method_21_code (8 : Nat) (Option.some Jvm.ClassFile.FieldType.int),Jvm.Cond.code ({ cls := "RetimingEngine", name := "computePairs", desc := "()V" } : Jvm.MethodName) prog_1_method_23_code (3 : Nat) (Option.none : Option Jvm.ClassFile.FieldType),Jvm.Cond.code ({ cls := "RetimingEngine", name := "relaxVia", desc := "(I)V" } : Jvm.MethodName) prog_1_method_24_code (6 : Nat) (Option.none : Option Jvm.ClassFile.FieldType),Jvm.Cond.code ({ cls := "RetimingEngine", name := "offer", desc := "(III)V" } : Jvm.MethodName) prog_1_method_22_code (4 : Nat) (Option.none : Option Jvm.ClassFile.FieldType),Jvm.Cond.code ({ cls := "RetimingEngine", name := "searchMin", desc := "()I" } : Jvm.MethodName) prog_1_method_25_code (5 : Nat) (Option.some Jvm.ClassFile.FieldType.int),Jvm.Cond.code ({ cls := "RetimingEngine", name := "feasible", desc := "(I)Z" } : Jvm.MethodName) prog_1_method_26_code (3 : Nat) (Option.some Jvm.ClassFile.FieldType.boolean),Jvm.Cond.code ({ cls := "RetimingEngine", name := "relaxPass", desc := "(I)Z" } : Jvm.MethodName) prog_1_method_27_code (7 : Nat) (Option.some Jvm.ClassFile.FieldType.boolean),Jvm.Cond.code ({ cls := "RetimingEngine", name := "applyLags", desc := "()V" } : Jvm.MethodName) prog_1_method_28_code (2 : Nat) (Option.none : Option Jvm.ClassFile.FieldType),Jvm.Cond.code ({ cls := "RetimingEngine", name := "xOf", desc := "(II)I" } : Jvm.MethodName) prog_1_method_19_code (3 : Nat) (Option.some Jvm.ClassFile.FieldType.int),Jvm.Cond.code ({ cls := "RetimingEngine", name := "reset", desc := "()V" } : Jvm.MethodName) prog_1_method_17_code (1 : Nat) (Option.none : Option Jvm.ClassFile.FieldType),Jvm.Cond.code ({ cls := "RetimingEngineL5", name := "same", desc := "(LRetimingEngine;LRetimingEngine;)Z" } : Jvm.MethodName) method_4_code (6 : Nat) (Option.some Jvm.ClassFile.FieldType.boolean),Jvm.Cond.code ({ cls := "RetimingEngine", name := "edgeCount", desc := "()I" } : Jvm.MethodName) prog_1_method_5_code (1 : Nat) (Option.some Jvm.ClassFile.FieldType.int),Jvm.Cond.code ({ cls := "RetimingEngine", name := "minPeriod", desc := "()I" } : Jvm.MethodName) prog_1_method_7_code (1 : Nat) (Option.some Jvm.ClassFile.FieldType.int),Jvm.Cond.code ({ cls := "RetimingEngine", name := "originalPeriod", desc := "()I" } : Jvm.MethodName) prog_1_method_6_code (1 : Nat) (Option.some Jvm.ClassFile.FieldType.int),Jvm.Cond.code ({ cls := "RetimingEngine", name := "retimedPeriod", desc := "()I" } : Jvm.MethodName) prog_1_method_8_code (1 : Nat) (Option.some Jvm.ClassFile.FieldType.int),Jvm.Cond.code ({ cls := "RetimingEngine", name := "lag", desc := "(I)I" } : Jvm.MethodName) prog_1_method_11_code (2 : Nat) (Option.some Jvm.ClassFile.FieldType.int),Jvm.Cond.code ({ cls := "RetimingEngine", name := "retimedRegs", desc := "(I)I" } : Jvm.MethodName) prog_1_method_12_code (2 : Nat) (Option.some Jvm.ClassFile.FieldType.int),Jvm.Cond.code ({ cls := "RetimingEngine", name := "regWeight", desc := "(II)I" } : Jvm.MethodName) prog_1_method_9_code (4 : Nat) (Option.some Jvm.ClassFile.FieldType.int),Jvm.Cond.code ({ cls := "RetimingEngine", name := "checkPair", desc := "(II)I" } : Jvm.MethodName) prog_1_method_18_code (3 : Nat) (Option.some Jvm.ClassFile.FieldType.int),Jvm.Cond.code ({ cls := "RetimingEngine", name := "pathDelay", desc := "(II)I" } : Jvm.MethodName) prog_1_method_10_code (4 : Nat) (Option.some Jvm.ClassFile.FieldType.int),Jvm.Cond.code ({ cls := "RetimingEngine", name := "output", desc := "(II)I" } : Jvm.MethodName) prog_1_method_16_code (3 : Nat) (Option.some Jvm.ClassFile.FieldType.int),Jvm.Cond.code ({ cls := "RetimingEngine", name := "simulate", desc := "()I" } : Jvm.MethodName) prog_1_method_15_code (2 : Nat) (Option.some Jvm.ClassFile.FieldType.int),Jvm.Cond.code ({ cls := "RetimingEngine", name := "clearInputs", desc := "()V" } : Jvm.MethodName) prog_1_method_14_code (1 : Nat) (Option.none : Option Jvm.ClassFile.FieldType),Jvm.Cond.code ({ cls := "RetimingEngine", name := "simCircuit", desc := "(II)V" } : Jvm.MethodName) prog_1_method_29_code (6 : Nat) (Option.none : Option Jvm.ClassFile.FieldType),Jvm.Cond.code ({ cls := "RetimingEngine", name := "evalVertex", desc := "(III)I" } : Jvm.MethodName) prog_1_method_30_code (9 : Nat) (Option.some Jvm.ClassFile.FieldType.int)]
set_option maxRecDepth 65536 in
theorem codes_eq : words1.filter isCode = codes1:=rfl
theorem w_codes : ∀ c ∈ words1.filter isCode,c.before args0 about1 = true:=by
  rw [codes_eq]
  intro c hc
  simp only [codes1,List.mem_cons,List.not_mem_nil,or_false] at hc
  rcases hc with rfl | rfl | rfl | rfl | rfl | rfl | rfl | rfl | rfl | rfl | rfl | rfl | rfl | rfl | rfl | rfl | rfl | rfl | rfl | rfl | rfl | rfl | rfl | rfl | rfl | rfl | rfl | rfl | rfl | rfl | rfl | rfl | rfl | rfl
  · exact w_c0
  · exact w_c1
  · exact w_c2
  · exact w_c3
  · exact w_c4
  · exact w_c5
  · exact w_c6
  · exact w_c7
  · exact w_c8
  · exact w_c9
  · exact w_c10
  · exact w_c11
  · exact w_c12
  · exact w_c13
  · exact w_c14
  · exact w_c15
  · exact w_c16
  · exact w_c17
  · exact w_c18
  · exact w_c19
  · exact w_c20
  · exact w_c21
  · exact w_c22
  · exact w_c23
  · exact w_c24
  · exact w_c25
  · exact w_c26
  · exact w_c27
  · exact w_c28
  · exact w_c29
  · exact w_c30
  · exact w_c31
  · exact w_c32
  · exact w_c33
set_option maxRecDepth 65536 in
theorem w_t1 : (words1.take 24).all (fun c => isCode c || c.before args0 about1) = true:=by decide +kernel
set_option maxRecDepth 65536 in
theorem w_t2 : ((words1.drop 24).take 24).all (fun c => isCode c || c.before args0 about1) = true:=by decide +kernel
set_option maxRecDepth 65536 in
theorem w_t3 : (((words1.drop 24).drop 24).take 24).all (fun c => isCode c || c.before args0 about1) = true:=by decide +kernel
set_option maxRecDepth 65536 in
theorem w_t4 : ((((words1.drop 24).drop 24).drop 24).take 24).all (fun c => isCode c || c.before args0 about1) = true:=by decide +kernel
set_option maxRecDepth 65536 in
theorem w_t5 : (((((words1.drop 24).drop 24).drop 24).drop 24).take 24).all (fun c => isCode c || c.before args0 about1) = true:=by decide +kernel
set_option maxRecDepth 65536 in
theorem w_t6 : ((((((words1.drop 24).drop 24).drop 24).drop 24).drop 24).take 24).all (fun c => isCode c || c.before args0 about1) = true:=by decide +kernel
set_option maxRecDepth 65536 in
theorem w_t7 : (((((((words1.drop 24).drop 24).drop 24).drop 24).drop 24).drop 24).take 24).all (fun c => isCode c || c.before args0 about1) = true:=by decide +kernel
set_option maxRecDepth 65536 in
theorem w_t8 : ((((((((words1.drop 24).drop 24).drop 24).drop 24).drop 24).drop 24).drop 24).take 24).all (fun c => isCode c || c.before args0 about1) = true:=by decide +kernel
set_option maxRecDepth 65536 in
theorem w_t9 : ((((((((words1.drop 24).drop 24).drop 24).drop 24).drop 24).drop 24).drop 24).drop 24).all (fun c => isCode c || c.before args0 about1) = true:=by decide +kernel
theorem w_tables : (allAtoms (Jvm.Cond.code x code maxLocals ret::tables_1)).before args0 about1 = true:=by
  rw [allAtoms_all]
  show words1.all (fun c => c.before args0 about1) = true
  refine all_split ?_ w_codes
  rw [← List.take_append_drop 24 words1,List.all_append,w_t1,← List.take_append_drop 24 (words1.drop 24),List.all_append,w_t2,← List.take_append_drop 24 ((words1.drop 24).drop 24),List.all_append,w_t3,← List.take_append_drop 24 (((words1.drop 24).drop 24).drop 24),List.all_append,w_t4,← List.take_append_drop 24 ((((words1.drop 24).drop 24).drop 24).drop 24),List.all_append,w_t5,← List.take_append_drop 24 (((((words1.drop 24).drop 24).drop 24).drop 24).drop 24),List.all_append,w_t6,← List.take_append_drop 24 ((((((words1.drop 24).drop 24).drop 24).drop 24).drop 24).drop 24),List.all_append,w_t7,← List.take_append_drop 24 (((((((words1.drop 24).drop 24).drop 24).drop 24).drop 24).drop 24).drop 24),List.all_append,w_t8,w_t9]
  rfl
set_option maxRecDepth 65536 in
theorem w_rest : rest_1_c.before args0 about1 = true:=by decide +kernel
set_option maxRecDepth 65536 in
theorem w_case : (Jvm.Cond.and given_1 narrow_1).before args0 about1 = true:=by decide +kernel
theorem w_applies : (headSpec (Jvm.Cond.code x code maxLocals ret::tables_1) room_1).applies x e0.platform about1 = true :=
  (Spec.applies_iff w_frames).mpr ⟨w_running,w_runnable,w_alone,w_named,w_hears,w_ripe,w_room,w_tables⟩
theorem atStart : AtStart classFile x code maxLocals ret World_1 tables_1 room_1 Calls_1 rest_1 Pre_1 launch0 p0 e0 about1 theMethod args0 below0 :=
  ⟨lists_1,trivial,launch0.admits_env _ _ _,launch0.least_env,fairChoices_fair.cas,fairChoices_fair.clock,w_frames,w_args,w_heap,w_applies,trivial,w_rest,w_case⟩
end start1
theorem witness_1 : WitnessClaimed_1:=⟨start1.p0,start1.e0,start1.about1,start1.theMethod,start1.args0,start1.below0,start1.atStart⟩
end Jvm.Pilot.@@N@@
